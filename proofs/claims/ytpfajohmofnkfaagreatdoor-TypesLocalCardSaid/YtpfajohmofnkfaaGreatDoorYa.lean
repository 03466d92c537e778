/- A part of the last text's proof; no condition of its own -/
import GoSem.Step
import Derived.Below
import Derived.ChangeKeysEq
import Derived.Laws.IdiomCopy
import Derived.Laws.Unary
import Derived.Laws.Wrap64
import Derived.Laws.StructEq
set_option maxHeartbeats 8000000
set_option linter.all false
namespace Go
def Zo{p:Prop}(h:p:=by omega):p:=h
def Za{p q:Prop}(a:p)(b:q):p/\q:=⟨a,b⟩
def Zd{p:Prop}(h:p:=by decide):p:=h
def Zs{p:Prop}(h:p:=by simp):p:=h
def Zk{p:Prop}(h:p:=by kernel_rfl):p:=h
def Zb:type_of%@List.getElem?_eq_some_iff:=@List.getElem?_eq_some_iff
def Zc:type_of%@decide_eq_false_iff_not:=@decide_eq_false_iff_not
def Ze:type_of%@List.getElem?_eq_getElem:=@List.getElem?_eq_getElem
def Zf:type_of%@Option.some.injEq:=@Option.some.injEq
def Zg:type_of%@if_neg:=@if_neg
def Zh:type_of%@decide_eq_true_eq:=@decide_eq_true_eq
def Zi:type_of%@Nat.le_refl:=@Nat.le_refl
def Zj:type_of%@Nat.eq_of_beq_eq_true:=@Nat.eq_of_beq_eq_true
def Zl:type_of%@List.mem_of_getElem?:=@List.mem_of_getElem?
def Zn:type_of%@List.length_map:=@List.length_map
def Zp:type_of%@Bool.and_eq_true:=@Bool.and_eq_true
def Zq:type_of%@if_pos:=@if_pos
def Zr:type_of%@List.mem_cons_of_mem:=@List.mem_cons_of_mem
def Zt:type_of%@List.mem_cons:=@List.mem_cons
def Zu:type_of%@List.mem_cons_self:=@List.mem_cons_self
def Zv:type_of%@List.drop_eq_getElem_cons:=@List.drop_eq_getElem_cons
def Zw:type_of%@Bool.false_eq_true:=@Bool.false_eq_true
def Zx:type_of%@List.getElem?_map:=@List.getElem?_map
def Zy:type_of%@List.mem_append:=@List.mem_append
def Zz:type_of%@Nat.le_trans:=@Nat.le_trans
def ZA:type_of%@if_false:=@if_false
def ZB:type_of%@List.length_cons:=@List.length_cons
def ZC:type_of%@List.take_of_length_le:=@List.take_of_length_le
def ZD:type_of%@if_true:=@if_true
def ZE:type_of%@List.getElem?_append_right:=@List.getElem?_append_right
def ZF:type_of%@Option.bind_some:=@Option.bind_some
def ZG:type_of%@List.getElem?_eq_none:=@List.getElem?_eq_none
def ZH:type_of%@not_false_eq_true:=@not_false_eq_true
def ZI:type_of%@Nat.zero_add:=@Nat.zero_add
def ZJ:type_of%@Nat.add_assoc:=@Nat.add_assoc
def ZK:type_of%@List.map_cons:=@List.map_cons
def ZL:type_of%@List.not_mem_nil:=@List.not_mem_nil
def ZM:type_of%@List.length_append:=@List.length_append
def ZN:type_of%@List.drop_eq_nil_of_le:=@List.drop_eq_nil_of_le
def ZO:type_of%@List.getElem?_append_left:=@List.getElem?_append_left
def ZP:type_of%@List.getElem?_cons_succ:=@List.getElem?_cons_succ
def ZQ:type_of%@Array.getElem?_eq_some_iff:=@Array.getElem?_eq_some_iff
def ZR:type_of%@Nat.lt_of_lt_of_le:=@Nat.lt_of_lt_of_le
def ZS:type_of%@Array.getElem?_toList:=@Array.getElem?_toList
def ZT:type_of%@List.mem_map:=@List.mem_map
def ZU:type_of%@List.length_nil:=@List.length_nil
def ZV:type_of%@Option.map_some:=@Option.map_some
def ZW:type_of%@List.eq_nil_of_length_eq_zero:=@List.eq_nil_of_length_eq_zero
def ZX:type_of%@List.getElem?_cons_zero:=@List.getElem?_cons_zero
def ZY:type_of%@Nat.add_zero:=@Nat.add_zero
def ZZ:type_of%@List.take_zero:=@List.take_zero
def Z0:type_of%@Option.bind_eq_some_iff:=@Option.bind_eq_some_iff
def Z1:type_of%@List.mem_iff_getElem?:=@List.mem_iff_getElem?
def Z2:type_of%@List.drop_zero:=@List.drop_zero
def Z3:type_of%@Option.isSome_none:=@Option.isSome_none
def Z4:type_of%@List.take_succ_cons:=@List.take_succ_cons
def Z5:type_of%@List.take_add_one:=@List.take_add_one
def Z6:type_of%@List.flatten_cons:=@List.flatten_cons
def Z7:type_of%@List.set_cons_zero:=@List.set_cons_zero
def Z8:type_of%@List.set_cons_succ:=@List.set_cons_succ
def Z9:type_of%@List.drop_succ_cons:=@List.drop_succ_cons
def Ya:type_of%@Bool.and_self:=@Bool.and_self
def Yb:type_of%@and_true:=@and_true
def Yc:type_of%@Option.isSome_some:=@Option.isSome_some
def Yd:type_of%@decide_false:=@decide_false
def Ye:type_of%@Nat.add_mul:=@Nat.add_mul
def Yf:type_of%@Nat.le_succ:=@Nat.le_succ
def Yg:type_of%@Bool.eq_iff_iff:=@Bool.eq_iff_iff
def Yh:type_of%@Bool.not_false:=@Bool.not_false
def Yi:type_of%@Bool.not_true:=@Bool.not_true
def Yj:type_of%@Nat.mul_one:=@Nat.mul_one
def Yk:type_of%@beq_self_eq_true:=@beq_self_eq_true
def Yl:type_of%@Int.eq_ofNat_of_zero_le:=@Int.eq_ofNat_of_zero_le
def Ym:type_of%@Option.bind_assoc:=@Option.bind_assoc
def Yn:type_of%@Option.map_eq_some_iff:=@Option.map_eq_some_iff
def Yo:type_of%@List.foldl_cons:=@List.foldl_cons
def Yp:type_of%@decide_true:=@decide_true
def Yq:type_of%@List.length_set:=@List.length_set
def Yr:type_of%@or_false:=@or_false
def Ys:type_of%@List.ext_getElem?:=@List.ext_getElem?
def Yt:type_of%@List.size_toArray:=@List.size_toArray
def Yu:type_of%@List.flatMap_cons:=@List.flatMap_cons
def Yv:type_of%@Bool.and_true:=@Bool.and_true
def Yw:type_of%@List.cons.injEq:=@List.cons.injEq
def Yx:type_of%@Option.some.inj:=@Option.some.inj
def Yy:type_of%@List.map_append:=@List.map_append
def Yz:type_of%@List.append_nil:=@List.append_nil
def YA:type_of%@Nat.lt_succ_self:=@Nat.lt_succ_self
def YB:type_of%@List.length_drop:=@List.length_drop
def YC:type_of%@List.getElem?_set:=@List.getElem?_set
def YD:type_of%@Array.getElem?_append_left:=@Array.getElem?_append_left
def YE:type_of%@List.map_congr_left:=@List.map_congr_left
def YF:type_of%@List.takeWhile_cons:=@List.takeWhile_cons
def YG:type_of%@List.length_pos_iff:=@List.length_pos_iff
def YH:type_of%@List.nil_append:=@List.nil_append
def YI:type_of%@Nat.mod_eq_of_lt:=@Nat.mod_eq_of_lt
def YJ:type_of%@List.getElem?_drop:=@List.getElem?_drop
def YK:type_of%@List.map_map:=@List.map_map
def YL:type_of%@Prod.mk.injEq:=@Prod.mk.injEq
def YM:type_of%@List.set_nil:=@List.set_nil
def YN:type_of%@List.mem_filter:=@List.mem_filter
def YO:type_of%@List.cons_append:=@List.cons_append
def YP:type_of%@Option.getD_some:=@Option.getD_some
def YQ:type_of%@List.mem_or_eq_of_mem_set:=@List.mem_or_eq_of_mem_set
def YR:type_of%@List.pairwise_iff_getElem:=@List.pairwise_iff_getElem
def YS:type_of%@Int.emod_eq_of_lt:=@Int.emod_eq_of_lt
def YT:type_of%@Array.size_append:=@Array.size_append
def YU:type_of%@Nat.lt_trichotomy:=@Nat.lt_trichotomy
def YV:type_of%@List.getElem?_take_of_lt:=@List.getElem?_take_of_lt
def YW:type_of%@Nat.le_mul_of_pos_right:=@Nat.le_mul_of_pos_right
def YX:type_of%@not_or:=@not_or
def YY:type_of%@List.take_length:=@List.take_length
def YZ:type_of%@Array.ext':=@Array.ext'
def Y0:type_of%@beq_iff_eq:=@beq_iff_eq
def Y1:type_of%@Nat.lt_or_ge:=@Nat.lt_or_ge
def Y2:type_of%@Nat.sub_zero:=@Nat.sub_zero
def Y3:type_of%@Option.map_none:=@Option.map_none
def Y4:type_of%@Array.getElem?_modify:=@Array.getElem?_modify
def Y5:type_of%@Nat.le_div_iff_mul_le:=@Nat.le_div_iff_mul_le
def Y6:type_of%@Array.mem_of_getElem?:=@Array.mem_of_getElem?
def Y7:type_of%@List.mapM_cons:=@List.mapM_cons
def Y8:type_of%@List.mem_of_mem_drop:=@List.mem_of_mem_drop
def Y9:type_of%@List.mem_of_mem_take:=@List.mem_of_mem_take
def za:type_of%@Nat.le_of_eq:=@Nat.le_of_eq
def zb:type_of%@Nat.beq_refl:=@Nat.beq_refl
def zc:type_of%@Nat.le_add_right:=@Nat.le_add_right
def zd:type_of%@Nat.zero_mul:=@Nat.zero_mul
def ze:type_of%@List.length_take:=@List.length_take
def zf:type_of%@List.flatten_append:=@List.flatten_append
def zg:type_of%@List.length_reverse:=@List.length_reverse
def zh:type_of%@true_and:=@true_and
def zi:type_of%@and_self:=@and_self
def zj:type_of%@Bool.or_eq_true:=@Bool.or_eq_true
def zk:type_of%@List.find?_cons:=@List.find?_cons
def zl:type_of%@List.find?_eq_none:=@List.find?_eq_none
def zm:type_of%@Nat.succ_mul:=@Nat.succ_mul
def zn:type_of%@List.drop_drop:=@List.drop_drop
def zo:type_of%@Nat.le_of_lt:=@Nat.le_of_lt
def zp:type_of%@List.reverse_cons:=@List.reverse_cons
def zq:type_of%@Nat.not_lt:=@Nat.not_lt
def zr:type_of%@Nat.zero_le:=@Nat.zero_le
def zs:type_of%@Nat.mul_comm:=@Nat.mul_comm
def zt{p q:Prop}(a:q)(h:q->p:=by intro h;omega):p:=h a
def zu(a b:Nat)(h:b<=a:=by omega):decide ((a:Int)<(b:Int))=false:=decide_eq_false (by omega)
def zv(a b:Nat)(h:a<b:=by omega):decide ((a:Int)<(b:Int))=true:=decide_eq_true (by omega)
def zw{α:Type}(l:List α)(i:Nat)(h:i<l.length:=by omega):∃x,l[i]? =some x:=⟨_,List.getElem?_eq_getElem h⟩
end Go
namespace Go.bi
noncomputable section
inductive V(α:Type) where
 |nil
 |node (v:Option α) (l r:V α)
 deriving Inhabited
universe ae
def bP{α:Type ae}(c:Bool)(t J:α):α:=Bool.rec (motive:=λ_=>α) J t c
def V.get{α:Type}(t:V α):Nat->Option α:=
 V.rec (motive:=λ_=>Nat->Option α) (λ_=>none)
  (λv _ _ is qc i=>Nat.rec (motive:=λ_=>Option α) v (λaa _=>bP (Nat.beq (Nat.mod aa 2) 0) (is (Nat.div aa 2)) (qc (Nat.div aa 2))) i) t
def jj{α eO:Type}(t:V α)(B:V α->eO):eO:=
 V.rec (motive:=λ_=>eO) (B .nil) (λv l r _ _=>B (.node v l r)) t
def V.rq{α:Type}(f:Nat):V α->Nat->Option α->V α:=
 Nat.rec (motive:=λ_=>V α->Nat->Option α->V α) (λt _ _=>t)
  (λ_ ak t i K=>V.rec (motive:=λ_=>V α)
   (Nat.rec (motive:=λ_=>V α) (.node K .nil .nil) (λaa _=>bP (Nat.beq (Nat.mod aa 2) 0)
    (jj (ak .nil (Nat.div aa 2) K) λb8=> .node none b8 .nil) (jj (ak .nil (Nat.div aa 2) K) λgO=> .node none .nil gO)) i)
   (λv l r _ _=>Nat.rec (motive:=λ_=>V α) (.node K l r) (λaa _=>bP (Nat.beq (Nat.mod aa 2) 0)
    (jj (ak l (Nat.div aa 2) K) λb8=> .node v b8 r) (jj (ak r (Nat.div aa 2) K) λgO=> .node v l gO)) i) t) f
def p9{eO:Type}(n:Nat)(B:Nat->eO):eO:=Nat.rec (motive:=λ_=>eO) (B 0) (λm _=>B (Nat.succ m)) n
def PU{eO:Type}(n:Int)(B:Int->eO):eO:=
 Int.rec (motive:=λ_=>eO) (λm=>p9 m λm=>B (.ofNat m)) (λm=>p9 m λm=>B (.negSucc m)) n
def ep{α:Type}(l:List (Nat×α)):Nat->Option α:=
 List.rec (motive:=λ_=>Nat->Option α) (λ_=>none) (λp _ ak aa=>Prod.rec (motive:=λ_=>Option α) (λK b=>bP (Nat.beq K aa) (some b) (ak aa)) p) l
def V.set{α:Type}(t:V α)(i:Nat)(K:Option α):V α:=V.rq (i+1) t i K
def V.ofList{α:Type}:List α->Nat->V α->V α
 |[],_,t=>t
 |K::l,i,t=>jj (t.set i (some K)) λe2=>ofList l (i+1) e2
def V.km{α:Type}(t:V α):Nat->Nat->Option (List α)
 |_,0=>some []
 |Y,n+1=>match t.get Y with
  |none=>none
  |some K=>match km t (Y+1) n with
   |none=>none
   |some l=>some (K::l)
def rm{α:Type}(l:List α):Nat->Option α:=
 List.rec (motive:=λ_=>Nat->Option α) (λ_=>none) (λK _ ak i=>Nat.rec (motive:=λ_=>Option α) (some K) (λaa _=>ak aa) i) l
inductive F where
 |bool (b:Bool)
 |int (B:IntKind) (n:Int)
 |str (s:List Nat)
 |ptr (b Y:Nat)
 |cz
 |slice (b Y len cap:Nat)
 |en (b Y len a1:Nat)
 |aP
 |map (m:Nat)
 |lf
 |func (fn:Fn) (first fH:List F)
 |nilFunc
 |iface (t:Nat) (v:F)
 |nilIface
 |agg (cs:List F)
 |tuple (bo:List F)
 deriving Inhabited
def F.cells:F->List F
 | .agg cs=>cs
 |v=>[v]
def undef:F:= .tuple []
def Bn{α eO:Type}(f:α->Option eO):List α->Option (List eO)
 |[]=>some []
 |K::l=>match f K with
  |none=>none
  |some b=>match Bn f l with
   |none=>none
   |some r=>some (b::r)
def Bu:Nat->Value->Option F
 |0,_=>none
 |n+1,v=>match v with
  | .bool b=>some (.bool b)
  | .int B n=>some (.int B n)
  | .string s=>some (.str (s.data.toList.map (·.toNat)))
  | .pointer none=>some .cz
  | .slice none 0 0=>some .aP
  | .map none=>some .lf
  | .func (.func f) ⟨[]⟩ ⟨[]⟩=>some (.func (.func f) [] [])
  | .nilFunc=>some .nilFunc
  | .iface t v=>match Bu n v with|some K=>some (.iface t K)|none=>none
  | .nilIface=>some .nilIface
  | .agg cs=>match Bn (Bu n) cs.toList with|some l=>some (.agg l)|none=>none
  | .tuple cs=>match Bn (Bu n) cs.toList with|some l=>some (.tuple l)|none=>none
  |_=>none
def DD(v:Value):Option F:=Bu 20 v
inductive Oj where
 |fn (fn:Fn) (fH:List F)
 |collected (r:Nat)
structure hA where
 target:Oj
 args:List F
inductive nF where
 |own|marked|grow (fm:List Nat)|jR
 deriving Inhabited
inductive an where
 |cells (c:V F) (size:Nat) (st:nF)
 |map (cb:List (F×F×Nat)) (eX:Nat)
 |look (cb:List (F×F))
 |oh (s:List Nat) (pos:Nat)
 |yM (m:Option Nat) (vw:Nat) (seen:List Nat) (aeM:Nat)
 |Ga (m vw n:Nat) (cH:List Nat) (st:Nat) (m9:Option Nat)
 |loop (state:LoopState) (pending:Option Code) (fn:Nat) (n av:Nat) (M:V F) (params:List Nat) (assign body:Code) (defers:Nat)
 |deferred (pr:Option (List hA))
structure aZ where
 P:Program
 G:V an
 a8:Nat
 hc:Nat->List F->Option F
 o2:Nat
def ab(C:aZ)(h:V an)(b:Nat):Option an:=
 bP (Nat.blt b C.a8) (C.G.get b) (h.get (Nat.sub b C.a8))
def bn(C:aZ)(h:V an)(b:Nat)(Y:Option an):V an:=h.set (Nat.sub b C.a8) Y
def jV(C:aZ)(b:Nat):Bool:=Nat.ble C.a8 b
structure ry where
 v:F
 recovered:Bool
inductive kD where
 |run|returning|panicking (chain:List ry)
inductive ka where
 |v (aa:Nat)
 |t (n:Nat)
 |c (K:F)
inductive jC where
 |Ds (x:ka)
 |pick (c K b:ka)
 |fT (K:ka)
 |Bi (n:Nat) (K:ka)
 |off (d:Nat) (x:ka)
 |Bb (n a1:Nat) (x i:ka)
 |Bc (a1:Nat) (x i:ka)
 |Dz (x:ka)
 |I4 (op:BinOp) (x e:ka)
 |ext (i:Nat) (x:ka)
 |st (n:Nat) (K v:ka)
 |call (f:Nat) (args:List ka)
 |hV (b3:List (Nat×Nat)) (Y:Op)
 |make (b3:List (Nat×Nat)) (Y:Op)
 |ff (b3:List (Nat×Nat)) (Y:Op)
structure fi where
 i:Nat
 g:Option (Nat×Bool)
 op:jC
structure wa where
 tv:List fi
 S6:List fi
 ff:Option fi
inductive dV where
 |code (c:Code)
 |inBlock (id:Nat)
 |inLoop (body:Code)
 |inScope (body:Code)
 |GG (ax:Array Oper) (aw:List (Nat×F)) (rest:List fi) (fin:List (Nat×Nat))
 |drawn (ax:Array Oper) (base:Nat) (aw:List (Nat×F)) (kY:List wa) (fin:List (Nat×Nat))
 |sJ (ax:Array Oper) (aw:List (Nat×F)) (a:Nat) (rest:List fi) (fin:List (Nat×Nat))
 |y4 (ax:Array Oper) (base:Nat) (aw:List (Nat×F)) (a:Nat) (kY:List wa) (fin:List (Nat×Nat))
 |inRangeFunc (l:Nat)
 |endRangeFunc (l:Nat)
 |beginRound
structure gH where
 fn:Nat
 n:Nat
 av:Nat
 M:V F
 todo:List dV
 defers:List hA
 mode:kD
 deferred:Bool
 roundOf:Option Nat
section ax
variable(C:aZ)
def jb(t:Nat):Option Nat:=match C.P.info? t with|some i=>some i.size|none=>none
def sL(t:Nat):Option F:=match C.P.info? t with|some i=>(match i.zero with|some v=>DD v|none=>none)|none=>none
def De(t:Nat):Option Bool:=match C.P.underlying t with
 |some (.struct _)=>some true|some (.array _ _)=>some true|some _=>some false|none=>none
def li:List F->Nat->List F->List F
 |cs,_,[]=>cs
 |cs,Y,v::l=>li (cs.set Y v) (Y+1) l
def AA(Gt:Nat->Option (Nat×Nat)):List F->List (Nat×F)->Option (List F)
 |cells,[]=>some cells
 |cells,(i,v)::rest=>match Gt i with
  |none=>none
  |some (off,size)=>
   bP (Nat.beq v.cells.length size&&Nat.ble (off+size) cells.length) (AA Gt (li cells off v.cells) rest)<|none
def kz:Nat->List F->List F
 |0,_=>[]
 |n+1,bt=>bt++kz n bt
def x2(ay:Operand->Option F):List (Nat×Operand)->Option (List (Nat×F))
 |[]=>some []
 |(i,x)::l=>match ay x,x2 ay l with|some v,some r=>some ((i,v)::r)|_,_=>none
def px(ay:Operand->Option F):List Operand->Option (List F)
 |[]=>some []
 |x::l=>match ay x,px ay l with|some v,some r=>some (v::r)|_,_=>none
def TC(jH:List Field)(i:Nat):Option (Nat×Nat):=
 match rm jH i with
 |some f=>(match jb C f.type with|some s=>some (f.offset,s)|none=>none)
 |none=>none
def Nq:List Field->Bool
 |[]=>true
 |f::l=>(match jb C f.type with|some _=>true|none=>false)&&Nq l
def Ky(t:Nat)(jP:List (Nat×F)):Option F:=
 match sL C t with
 |none=>none
 |some bt=>match C.P.underlying t with
  |some (.struct jH)=>bP (Nq C jH.toList) (match AA (TC C jH.toList) bt.cells jP with|some cs=>some (.agg cs)|none=>none) none
  |some (.array _ ee)=>(match jb C ee with
   |some s=>(match AA (λi=>some (i*s,s)) bt.cells jP with|some cs=>some (.agg cs)|none=>none)
   |none=>none)
  |_=>none
def B6(t:Nat)(cs:List F)(off:Nat):Option F:=
 match De C t,jb C t with
 |some true,some s=>some (.agg ((cs.drop off).take s))
 |some false,_=>rm cs off
 |_,_=>none
def mx:List Nat->List Nat->Bool
 |[],[]=>true
 |K::x,b::e=>Nat.beq K b&&mx x e
 |_,_=>false
def Bq:List Nat->List Nat->Bool
 |_,[]=>false
 |[],_::_=>true
 |K::x,b::e=>Nat.blt K b||(Nat.beq K b&&Bq x e)
def Gr(h:V an)(b Y:Nat):Bool:=match ab C h b with
 |some (.cells _ n .own)=>jV C b&&Nat.blt Y n
 |_=>false
def Bk(h:V an)(b Y:Nat):Bool:=match ab C h b with
 |some (.cells _ _ .jR)=>false
 |some (.cells _ n _)=>Nat.blt Y n
 |_=>false
def ptrEq(h:V an)(b Y dP o':Nat):Option Bool:=
 bP (Nat.beq b dP) (some (Nat.beq Y o')) (bP (Gr C h b Y&&Bk C h dP o'||Gr C h dP o'&&Bk C h b Y) (some false) none)
def B5(eq:Nat->F->F->Option Bool):List Field->List F->List F->Option Bool
 |[],_,_=>some true
 |f::jv,cn,nA=>
  bP (f.name== "_") none<|
  match B6 C f.type cn f.offset,B6 C f.type nA f.offset with
  |some K,some b=>(match eq f.type K b with
   |some true=>B5 eq jv cn nA
   |some false=>some false
   |none=>none)
  |_,_=>none
def lY(B e4:IntKind):Bool:=match B,e4 with
 | .i8, .i8=>true| .i16, .i16=>true| .i32, .i32=>true| .i64, .i64=>true
 | .u8, .u8=>true| .u16, .u16=>true| .u32, .u32=>true| .u64, .u64=>true
 |_,_=>false
def EB(K b:Bool):Bool:=match K,b with|true,true=>true|false,false=>true|_,_=>false
def w5(x e:Int):Bool:=match x,e with
 | .ofNat K, .ofNat b=>Nat.beq K b
 | .negSucc K, .negSucc b=>Nat.beq K b
 |_,_=>false
def yH(x e:Int):Bool:=match x,e with
 | .ofNat K, .ofNat b=>Nat.blt K b
 | .negSucc K, .negSucc b=>Nat.blt b K
 | .negSucc _, .ofNat _=>true
 | .ofNat _, .negSucc _=>false
def kl(h:V an):Nat->Nat->F->F->Option Bool
 |0,_,_,_=>none
 |d+1,t,x,e=>
  match C.P.underlying t,x,e with
  |some .bool, .bool K, .bool b=>some (EB K b)
  |some (.int _), .int B K, .int e4 b=>bP (lY B e4) (some (w5 K b)) none
  |some .string, .str K, .str b=>some (mx K b)
  |some (.pointer _), .cz, .cz=>some true
  |some (.pointer _), .cz, .ptr _ _=>some false
  |some (.pointer _), .ptr _ _, .cz=>some false
  |some (.pointer J), .ptr b Y, .ptr dP o'=>
   (
    match jb C J with
    |some s=>bP (Nat.beq s 0) none (ptrEq C h b Y dP o')
    |none=>none)
  |some (.interface _), .nilIface, .nilIface=>some true
  |some (.interface _), .nilIface, .iface _ _=>some false
  |some (.interface _), .iface _ _, .nilIface=>some false
  |some (.interface _), .iface J8 N6, .iface ty N7=>bP (Nat.beq J8 ty) (match C.P.info? J8 with
   |some i=>bP i.comparable (kl h d J8 N6 N7) none
   |none=>none) (some false)
  |some (.slice _), .aP, .aP=>some true
  |some (.slice _), .aP, .slice .. =>some false
  |some (.slice _), .aP, .en .. =>some false
  |some (.slice _), .slice .., .aP=>some false
  |some (.slice _), .en .., .aP=>some false
  |some (.map _ _), .lf, .lf=>some true
  |some (.map _ _), .lf, .map _=>some false
  |some (.map _ _), .map _, .lf=>some false
  |some (.func _ _ _), .nilFunc, .nilFunc=>some true
  |some (.func _ _ _), .nilFunc, .func .. =>some false
  |some (.func _ _ _), .func .., .nilFunc=>some false
  |some (.struct jH), .agg cn, .agg nA=>bP (C.P.stoodInHeld t) none (B5 C (kl h d) jH.toList cn nA)
  |_,_,_=>none
def pg(B:IntKind)(n:Int):Int:=
 match B with
 | .i64=>(λm:Int=>bP (decide (m<9223372036854775808)) m (m-18446744073709551616)) (n%18446744073709551616)
 | .u64=>n%18446744073709551616
 | .u8=>n%256
 |B=>B.wrap n
def n0(B:IntKind)(n:Int):Option F:=PU n λn=>some (.int B n)
def kT(B:IntKind)(n:Int):Option F:=PU (pg B n) λn=>some (.int B n)
def ox(b:Bool):Option F:=bP b (some (.bool true)) (some (.bool false))
def lo(op:BinOp):IntKind->Int->Int->Option F:=
 match op with
 | .add=>λB x e=>kT B (x+e)
 | .sub=>λB x e=>kT B (x-e)
 | .mul=>λB x e=>kT B (x*e)
 | .quo=>λB x e=>bP (w5 e 0) none (kT B (x.tdiv e))
 | .rem=>λB x e=>bP (w5 e 0) none (n0 B (x.tmod e))
 | .and=>λB x e=>kT B ((BitVec.ofInt B.bits x&&& BitVec.ofInt B.bits e).toNat)
 | .or=>λB x e=>kT B ((BitVec.ofInt B.bits x|||BitVec.ofInt B.bits e).toNat)
 | .xor=>λB x e=>kT B ((BitVec.ofInt B.bits x^^^BitVec.ofInt B.bits e).toNat)
 | .andNot=>λB x e=>kT B ((BitVec.ofInt B.bits x&&& ~~~ BitVec.ofInt B.bits e).toNat)
 | .eql=>λ_ x e=>ox (w5 x e)
 | .neq=>λ_ x e=>ox (!w5 x e)
 | .lss=>λ_ x e=>ox (yH x e)
 | .leq=>λ_ x e=>ox (!yH e x)
 | .gtr=>λ_ x e=>ox (yH e x)
 | .geq=>λ_ x e=>ox (!yH x e)
 |_=>λ_ _ _=>none
def Hd(op:BinOp)(B:IntKind)(x e:Int):Option F:=
 bP (yH e 0) none
 (match op with
 | .shl=>kT B (x*2^(min e.toNat B.bits))
 | .shr=>n0 B (x.fdiv (2^(min e.toNat B.bits)))
 |_=>none)
def lG(op:BinOp):Bool:=match op with| .shl| .shr=>true|_=>false
def Am(op:BinOp)(x e:List Nat):Option F:=
 match op with
 | .add=>bP (Nat.ble (x.length+e.length) 1000000000) (some (.str (x++e)))<|none
 | .eql=>ox (mx x e)
 | .neq=>ox (!mx x e)
 | .lss=>ox (Bq x e)
 | .leq=>ox (Bq x e||mx x e)
 | .gtr=>ox (!(Bq x e||mx x e))
 | .geq=>ox (!Bq x e)
 |_=>none
def aF(op:BinOp)(x e:F):Option F:=
 match x,e with
 | .int B K, .int e4 b=>bP (lG op) (Hd op B K b) (bP (lY B e4) (lo op B K b) none)
 |_,_=>none
def ER(t:Nat)(sY:Bool)(x e:F):Bool:=match x,e with
 | .nilIface, .nilIface=>sY||(match C.P.underlying t with|some (.interface ih)=>ih.isEmpty|_=>false)
 | .agg _, .agg _=> !C.P.eqGuardType C.P.depth t
 |_,_=>true
def dn(h:V an)(op:BinOp)(t:Nat)(sY:Bool)(x e:F):Option F:=
 match x,e with
 | .int B K, .int e4 b=>aF op (.int B K) (.int e4 b)
 | .str K, .str b=>Am op K b
 |x,e=>bP (ER C t sY x e) (match op with
  | .eql=>(match kl C h 50 t x e with|some b=>ox b|none=>none)
  | .neq=>(match kl C h 50 t x e with|some b=>ox (!b)|none=>none)
  |_=>none) none
def fG(op:UnOp)(x:F):Option F:=
 match op,x with
 | .neg, .int B n=>lo .sub B 0 n
 | .xor, .int B n=>lo .xor B (if B.signed then -1 else B.max) n
 | .not, .bool b=>ox (!b)
 |_,_=>none
def OR(axd dst:Nat)(x:F):Option F:=
 match C.P.underlying axd,C.P.underlying dst,x with
 |some _,some (.int B), .int _ n=>kT B n
 |some _,some .string, .str s=>some (.str s)
 |_,_,_=>none
def mU(v:F):Option Nat:=match v with| .int _ n=>(match n with| .ofNat n=>some n|_=>none)|_=>none
def oW(Y:Option F)(m d:Nat):Option Nat:=match Y with
 |some v=>(match mU v with|some n=>bP (Nat.ble n m) (some n)<|none|none=>none)
 |none=>some d
def lQ(len cap:Nat)(bS aJ hb:Option F):Option (Nat×Nat×Nat):=
 match oW hb cap cap with
 |none=>none
 |some m=>match (match aJ,hb with
   |none,some _=>none
   |aJ,_=>oW aJ m len)with
  |none=>none
  |some a=>match oW bS a 0 with
   |none=>none
   |some l=>some (l,a,m)
def Bz(ay:Operand->Option F):Option Operand->Option (Option F)
 |none=>some none
 |some x=>match ay x with|some v=>some (some v)|none=>none
def xq(h:V an)(b:Nat):Option Nat:=match ab C h b with|some (.cells _ n (.grow _))=>some n|some (.cells _ n .jR)=>some n|_=>none
def KE(h:V an)(t:Nat)(x:F)(bS aJ hb:Option F):Option F:=
 match C.P.underlying t,x with
 |some .string, .str s=>(match hb with
  |some _=>none
  |none=>(match lQ s.length s.length bS aJ none with
   |some (l,a,_)=>some (.str ((s.drop l).take (a-l)))
   |none=>none))
 |some (.slice ee), .slice b Y len cap=>(match lQ len cap bS aJ hb,jb C ee with
  |some (l,a,m),some a1=>some (.slice b (bP (Nat.beq m l) (Y)<|Y+l*a1) (a-l) (m-l))
  |_,_=>none)
 |some (.slice ee), .aP=>(match lQ 0 0 bS aJ hb,jb C ee with
  |some _,some _=>some .aP
  |_,_=>none)
 |some (.slice ee), .en b Y len a1=>(match jb C ee,xq C h b with
  |some xs,some n=>bP (Nat.beq a1 xs&&Nat.blt 0 a1) ((match lQ len ((n-Y)/a1) bS aJ hb with
    |some (l,a,m)=>(match hb with
     |some _=>some (.slice b (bP (Nat.beq m l) (Y)<|Y+l*a1) (a-l) (m-l))
     |none=>bP (Nat.blt l ((n-Y)/a1)||Nat.beq l 0) (some (.en b (Y+l*a1) (a-l) a1))<|none)
    |none=>none))<|none
  |_,_=>none)
 |some (.array n ee), .ptr b Y=>(match lQ n n bS aJ hb,jb C ee with
  |some (l,a,m),some a1=>some (.slice b (bP (Nat.beq m l) (Y)<|Y+l*a1) (a-l) (m-l))
  |_,_=>none)
 |_,_=>none
def KB(t:Nat)(x i:F):Option F:=
 match mU i with
 |none=>none
 |some i=>match C.P.underlying t,x with
  |some (.array n ee), .agg cs=>(match jb C ee with|some a1=>bP (Nat.blt i n) (B6 C ee cs (i*a1))<|none|none=>none)
  |some .string, .str s=>(match rm s i with|some c=>some (.int .u8 (Int.ofNat c))|none=>none)
  |_,_=>none
def cellsOf(h:V an)(b:Nat):Option (V F):=match ab C h b with
 |some (.cells c _ _)=>some c
 |_=>none
def ao(h:V an)(K:F):Option F:=
 match K with
 | .ptr b Y=>(match cellsOf C h b with
   |some c=>c.get Y
   |none=>none)
 |_=>none
def cg(h:V an)(n:Nat)(K:F):Option F:=
 match K with
 | .ptr b Y=>(match cellsOf C h b with
   |some c=>(match c.km Y n with|some l=>some (.agg l)|none=>none)
   |none=>none)
 |_=>none
def lp(h:V an)(t:Nat)(K:F):Option F:=
 match De C t,jb C t with
 |some true,some s=>cg C h s K
 |some false,_=>ao C h K
 |_,_=>none
def mL:Nat->Nat->F->Bool
 |0,_,_=>false
 |n+1,t,v=>match C.P.underlying t,v with
  |some (.interface _), .iface d x=>(match C.P.info? d with|some i=>i.comparable&&mL n d x|none=>false)
  |some (.interface _), .nilIface=>true
  |some (.interface _),_=>false
  |some (.struct jH), .agg cs=>jH.toList.all λf=>f.name== "_"||(match B6 C f.type cs f.offset with|some p=>mL n f.type p|none=>false)
  |some (.struct _),_=>false
  |some (.array _ _),_=>false
  |some _,_=>true
  |none,_=>false
def ns:Nat->F->F->Bool
 |0,_,_=>false
 |n+1,x,e=>match x,e with
  | .bool K, .bool b=>EB K b
  | .int B K, .int e4 b=>lY B e4&&w5 K b
  | .str K, .str b=>mx K b
  | .ptr b Y, .ptr dP o'=>Nat.beq b dP&&Nat.beq Y o'
  | .cz, .cz=>true
  | .nilIface, .nilIface=>true
  | .iface t v, .iface e2 f9=>Nat.beq t e2&&ns n v f9
  | .agg K, .agg b=>Bh n K b
  |_,_=>false
 where
 Bh (n:Nat):List F->List F->Bool
 |[],[]=>true
 |x::K,e::b=>ns n x e&&Bh n K b
 |_,_=>false
def findKey(h:V an)(t:Nat)(B:F):List (F×F×Nat)->Nat->Option (Option (Nat×F))
 |[],_=>some none
 |(e4,v,_)::cb,i=>match kl C h 20 t B e4 with
  |some true=>some (some (i,v))
  |some false=>findKey h t B cb (i+1)
  |none=>none
def o1(h:V an)(t:Nat)(B:F):List (F×F)->Option (Option F)
 |[]=>some none
 |(e4,v)::cb=>match o1 h t B cb,kl C h 20 t B e4 with
  |some r,some false=>some r
  |some none,some true=>some (some v)
  |_,_=>none
def F6(r:Option (Option F)):Option (Option (Nat×F)):=match r with
 |some (some v)=>some (some (0,v))
 |some none=>some none
 |none=>none
def KD(h:V an)(t:Nat)(m B:F)(ok:Bool):Option F:=
 match C.P.underlying t with
 |some (.map jA Ax)=>
  (match (match m with
   | .lf=>bP (mL C 20 jA B) (some none) none
   | .map r=>(match ab C h r with|some (.map cb _)=>bP (mL C 20 jA B) (findKey C h jA B cb 0) none|some (.look cb)=>bP (mL C 20 jA B) (F6 (o1 C h jA B cb)) none|_=>none)
   |_=>none)with
  |none=>none
  |some none=>(match sL C Ax with|some bt=>some (bP (ok) (.tuple [bt, .bool false])<|bt)|none=>none)
  |some (some (_,v))=>some (bP (ok) (.tuple [v, .bool true])<|v))
 |_=>none
def KC(h:V an)(t:Nat)(x:F):Option F:=
 match C.P.underlying t,x with
 |some .string, .str s=>n0 .i64 (Int.ofNat s.length)
 |some (.array n _),_=>some (.int .i64 (Int.ofNat n))
 |some (.pointer co),_=>(match C.P.underlying co with|some (.array n _)=>some (.int .i64 (Int.ofNat n))|_=>none)
 |some (.slice _), .slice _ _ n _=>n0 .i64 (Int.ofNat n)
 |some (.slice _), .en _ _ n _=>n0 .i64 (Int.ofNat n)
 |some (.slice _), .aP=>some (.int .i64 0)
 |some (.map _ _), .lf=>some (.int .i64 0)
 |some (.map _ _), .map r=>(match ab C h r with|some (.map cb _)=>n0 .i64 (Int.ofNat cb.length)|_=>none)
 |_,_=>none
def Kz(t:Nat)(x:F):Option F:=
 match C.P.underlying t,x with
 |some (.slice _), .slice _ _ _ n=>n0 .i64 (Int.ofNat n)
 |some (.slice _), .aP=>some (.int .i64 0)
 |_,_=>none
def ov(hb:Bool):F->List F->Option F
 |v,[]=>some v
 | .int B x, .int _ e::l=>ov hb (.int B (bP (hb) ((bP (yH x e) (e)<|x))<|(bP (yH e x) (e)<|x))) l
 |_,_=>none
def xR:List F->Option (List Nat)
 |[]=>some []
 | .int .u8 (.ofNat n)::l=>(match xR l with|some r=>some (n%256::r)|none=>none)
 |_=>none
def mN(h:V an)(b Y n:Nat):Option (List F):=
 match cellsOf C h b with
 |some c=>c.km Y n
 |none=>bP (Nat.beq n 0) (some []) none
def Eo(h:V an)(x:F):Option F:=
 match x with
 | .aP=>some (.str [])
 | .slice b Y len _=>(match mN C h b Y len with|some l=>(match xR l with|some s=>some (.str s)|none=>none)|none=>none)
 | .en b Y len _=>(match mN C h b Y len with|some l=>(match xR l with|some s=>some (.str s)|none=>none)|none=>none)
 |_=>none
def Sd(t:Nat)(jP:Array (Nat×Operand))(_:V an)(ay:Operand->Option F):Option F:=
 match x2 ay jP.toList with|some dq=>Ky C t dq|none=>none
def qt(Y:Operand):Bool:=match Y with| .const _=>true|_=>false
def M4(op:BinOp)(t:Nat)(x e:Operand)(h:V an)(ay:Operand->Option F):Option F:=
 match ay x,ay e with|some K,some b=>dn C h op t (qt x||qt e) K b|_,_=>none
def Sl(op:UnOp)(x:Operand)(_:V an)(ay:Operand->Option F):Option F:=
 match ay x with|some K=>fG op K|none=>none
def Ji(s d:Nat)(x:Operand)(h:V an)(ay:Operand->Option F):Option F:=
 match ay x with
 |some K=>(match OR C s d K with
  |some v=>some v
  |none=>(match C.P.underlying s,C.P.underlying d with
   |some (.slice J),some .string=>(match C.P.underlying J with|some (.int .u8)=>Eo C h K|_=>none)
   |_,_=>none))
 |none=>none
def Jk(t:Nat)(x:Operand)(_:V an)(ay:Operand->Option F):Option F:=
 match C.P.underlying t,ay x with
 |some (.interface _),_=>none
 |some _,some v=>some (.iface t v)
 |_,_=>none
def Sh(fn:Fn)(first fH:Array Operand)(_:V an)(ay:Operand->Option F):Option F:=
 match px ay first.toList,px ay fH.toList with
 |some K,some b=>(match fn with| .func f=>some (.func (.func f) K b)|_=>none)
 |_,_=>none
def Sk(t:Nat)(x:Operand)(bS aJ hb:Option Operand)(h:V an)(ay:Operand->Option F):Option F:=
 match ay x,Bz ay bS,Bz ay aJ,Bz ay hb with
 |some v,some l,some a,some m=>KE C h t v l a m
 |_,_,_,_=>none
def Jj(t:Nat)(x:Operand)(f:Nat)(_:V an)(ay:Operand->Option F):Option F:=
 match C.P.underlying t,ay x with
 |some (.struct jH),some (.agg cs)=>(match rm jH.toList f with
  |some rS=>B6 C rS.type cs rS.offset
  |none=>none)
 |_,_=>none
def Si(t:Nat)(x i:Operand)(_:V an)(ay:Operand->Option F):Option F:=
 match ay x,ay i with|some K,some b=>KB C t K b|_,_=>none
def Sj(t:Nat)(m B:Operand)(ok:Bool)(h:V an)(ay:Operand->Option F):Option F:=
 match ay m,ay B with|some K,some b=>KD C h t K b ok|_,_=>none
def Jh(x:Operand)(tX:Nat)(ok:Bool)(_:V an)(ay:Operand->Option F):Option F:=
 match C.P.underlying tX,ay x with
 |some (.interface _),_=>none
 |some _,some .nilIface=>bP (ok) ((match sL C tX with|some bt=>some (.tuple [bt, .bool false])|none=>none))<|none
 |some _,some (.iface t v)=>bP (Nat.beq t tX) (some (bP (ok) (.tuple [v, .bool true])<|v))<|bP (ok) ((match sL C tX with|some bt=>some (.tuple [bt, .bool false])|none=>none))<|none
 |_,_=>none
def Se(b:Builtin)(args:Array Operand)(dg:Array TypeId)(h:V an)(ay:Operand->Option F):Option F:=
 match b,px ay args.toList with
 | .len,some [x]=>(match dg.toList with|t::_=>KC C h t x|_=>none)
 | .cap,some [x]=>(match dg.toList with|t::_=>Kz C t x|_=>none)
 | .max,some (x::l)=>ov true x l
 | .min,some (x::l)=>ov false x l
 |_,_=>none
def Sf(c:Call)(h:V an)(ay:Operand->Option F):Option F:=
 match c with
 |⟨.builtin b,args,dg⟩=>Se C b args dg h ay
 |_=>none
def acT:List Nat->Option Nat
 |[]=>none
 |K::l=>match l with|[]=>some K|_=>acT l
def Sg(_:Operand)(_:V an)(_:Operand->Option F):Option F:=(λ_:aZ=>none) C
def nH(Y:Op):aZ->V an->(Operand->Option F)->Option F:=
 match Y with
 | .build t jP=>λC=>Sd C t jP
 | .binOp op t x e _=>λC=>M4 C op t x e
 | .unOp op _ x=>λ_=>Sl op x
 | .convert s d x=>λC=>Ji C s d x
 | .makeInterface t x=>λC=>Jk C t x
 | .makeFunc fn first fH=>λ_=>Sh fn first fH
 | .slice t x bS aJ hb=>λC=>Sk C t x bS aJ hb
 | .field t x f=>λC=>Jj C t x f
 | .index t x i=>λC=>Si C t x i
 | .lookup t m B ok=>λC=>Sj C t m B ok
 | .typeAssert x _ tX ok=>λC=>Jh C x tX ok
 | .entry eI=>λC=>Sg C eI
 | .call c=>λC=>Sf C c
 |_=>λ_ _ _=>none
def BH(c:jC):Bool:=match c with
 | .fT _| .Bi _ _=>true
 | .hV _ Y=>(match Y with
   | .lookup .. | .convert .. | .slice .. | .call _| .binOp .. | .entry _=>true
   |_=>false)
 |_=>false
def Dp(t:Nat)(_:Operand->Option F)(b:Nat):Option (F×an):=
 match sL C t with|some bt=>some (.ptr b 0, .cells (V.ofList bt.cells 0 .nil) bt.cells.length .own)|none=>none
def Jq(x:Operand)(ay:Operand->Option F)(b:Nat):Option (F×an):=
 match ay x with|some v=>some (.ptr b 0, .cells (V.ofList v.cells 0 .nil) v.cells.length .own)|none=>none
def Jr(t len:Nat)(jP:Array (Nat×Operand))(ay:Operand->Option F)(b:Nat):Option (F×an):=
 match C.P.underlying t,x2 ay jP.toList with
 |some (.slice ee),some dq=>(match jb C ee,sL C ee with
  |some s,some bt=>bP (Nat.ble (len*s) 16777216&&Nat.beq bt.cells.length s) ((match AA (λi=>some (i*s,s)) (kz len bt.cells) dq with
    |some cs=>some (.slice b 0 len len, .cells (V.ofList cs 0 .nil) cs.length .own)
    |none=>none))<|none
  |_,_=>none)
 |_,_=>none
def p1(Y:Op):aZ->(Operand->Option F)->Nat->Option (F×an):=
 match Y with
 | .alloc t=>λC=>Dp C t
 | .box _ x=>λ_=>Jq x
 | .buildSlice t len jP=>λC=>Jr C t len jP
 | .makeMap _ none=>λ_ _ b=>some (.map b, .map [] 0)
 |_=>λ_ _ _=>none
def oU:List Nat->V an->V an
 |[],a=>a
 |b::l,a=>oU l (bn C a b none)
def dQ:V F->Nat->List F->V F
 |c,_,[]=>c
 |c,Y,v::l=>jj (c.set Y (some v)) λc=>dQ c (Y+1) l
def oc(v:F):Bool:=match v with| .agg _=>false| .tuple _=>false|_=>true
def iz:List F->Bool
 |[]=>true
 |v::l=>oc v&&iz l
def tU(h:V an)(b Y:Nat)(bo:List F):Option (V an):=
 match ab C h b with
 |some (.cells c n st)=>bP (Nat.ble (Y+bo.length) n&&jV C b&&iz bo) ((match st with
   | .own=>jj (dQ c Y bo) λc=>jj (bn C h b (some (.cells c n .own))) λh=>some h
   | .marked=>jj (dQ c Y bo) λc=>jj (bn C h b (some (.cells c n .marked))) λh=>some h
   | .grow fm=>jj (dQ c Y bo) λc=>jj (bn C (oU C fm h) b (some (.cells c n (.grow [])))) λh=>some h
   |_=>none))<|none
 |_=>none
def kX(h:V an)(a1:Nat)(x:F):Option (Nat×List F):=
 match x with
 | .aP=>some (0,[])
 | .slice b Y len _=>(match mN C h b Y (len*a1)with|some l=>some (len,l)|none=>none)
 | .en b Y len _=>(match mN C h b Y (len*a1)with|some l=>some (len,l)|none=>none)
 | .str s=>bP (Nat.beq a1 1) (some (s.length,s.map λn=>F.int .u8 (Int.ofNat n))) none
 |_=>none
inductive d4 where
 |val (v:F)
 |fh (v:F) (h:V an) (j:Nat)
 |enter (f:Nat) (args:List F)
 |known (f:Nat) (args:List F) (v:F)
 |round (l:Nat) (args:List F)
 |defer (d:hA)
 |recover
 |panic (v:F)
 |fork (l:List (F×V an))
def mV(C:aZ)(h:V an)(j:Nat)(Y:an)(B:Nat->F):Option d4:=
 p9 j λj=>jj (bn C h j (some Y)) λh=>some (.fh (B j) h (j+1))
def s7(h:V an)(j n a1:Nat)(l:List F):Option d4:=
 bP (Nat.ble n 1048576) (mV C h j (.cells (V.ofList l 0 .nil) l.length (.grow [])) λb=> .en b 0 n a1)<|none
def Hf(h:V an)(j:Nat)(b Y len a1 n:Nat)(l:List F):Option d4:=
 match ab C h b with
 |some (
   .cells c size (.grow fm))=>bP (jV C b)
  (bP (
   Nat.ble (Y+(len+n)*a1) size)
   (match tU C h b (Y+len*a1) l with|some T=>some (.fh (.en b Y (len+n) a1) T j)|none=>none)
   (bP (Nat.ble (len+n) 1048576&&iz l) (bP (Nat.beq (Y+len*a1) size&&Nat.beq Y 0)
    (jj (dQ c size l) λf0=>mV C (bn C h b (some (.cells c size .jR))) j (.cells f0 (size+l.length) (.grow (b::fm))) λdP=> .en dP 0 (len+n) a1)
    (match c.km Y (len*a1)with
    |some fP=>mV C (bn C (oU C fm h) b none) j (.cells (V.ofList (fP++l) 0 .nil) (fP++l).length (.grow [])) λdP=> .en dP 0 (len+n) a1
    |none=>none)) none)) none
 |_=>none
def xM(h:V an)(j:Nat)(a1 n:Nat)(l:List F)(s:F):Option d4:=
 match s with
 | .aP=>s7 C h j n a1 l
 | .slice b Y len cap=>bP (Nat.ble (len+n) cap) ((match tU C h b (Y+len*a1) l with|some T=>some (.fh (.slice b Y (len+n) cap) T j)|none=>none))<|(match mN C h b Y (len*a1)with
    |some fP=>s7 C h j (len+n) a1 (fP++l)
    |none=>none)
 | .en b Y len xs=>bP (Nat.beq xs a1) (Hf C h j b Y len a1 n l)<|none
 |_=>none
def Es(h:V an)(a1:Nat)(s:F):Option d4:=
 match s with
 | .aP=>some (.val .aP)
 | .slice b Y len cap=>bP (Nat.ble len cap) (some (.val (.slice b Y len cap))) none
 | .en b Y len xs=>bP (Nat.beq xs a1) (match xq C h b with
   |some n=>bP (Nat.ble (Y+len*a1) n) (some (.val (.en b Y len xs))) none
   |none=>none) none
 |_=>none
def KA(h:V an)(j:Nat)(st:Nat)(s:F)(n:Nat):Option d4:=
 match C.P.underlying st with
 |some (.slice ee)=>(match C.P.info? ee,sL C ee with
  |some i,some bt=>bP (Nat.blt 0 i.size&&Nat.ble i.bytes 65536&&Nat.beq bt.cells.length i.size&&Nat.ble n 1048576) (bP (Nat.beq n 0) (Es C h i.size s)<|xM C h j i.size n (kz n bt.cells) s)<|none
  |_,_=>none)
 |_=>none
def afJ(i:TypeInfo):Bool:=match i.zero with|some bt=>Nat.beq bt.cells.size i.size|none=>false
def Em(h:V an)(j:Nat)(st:Nat)(s x:F):Option d4:=
 match C.P.underlying st with
 |some (.slice ee)=>(match C.P.info? ee with
  |some i=>(match kX C h i.size x with
   |some (n,l)=>bP (Nat.blt 0 i.size&&Nat.ble i.bytes 65536&&afJ i) ((bP (Nat.beq n 0) (Es C h i.size s)<|xM C h j i.size n l s))<|none
   |none=>none)
  |none=>none)
 |_=>none
def azh(h:V an)(j:Nat)(b Y m:Nat)(l:List F):Option d4:=
 bP (Nat.beq m 0) (some (.val (.int .i64 0)))<|
 (match tU C h b Y l with|some T=>some (.fh (.int .i64 (Int.ofNat m)) T j)|none=>none)
def setObj(h:V an)(j:Nat)(r:Nat)(Y:an)(v:F):Option d4:=
 bP (jV C r) (jj (bn C h r (some Y)) λh=>some (.fh v h j))<|none
def Hb(h:V an)(j:Nat)(t:Nat)(m B v:F):Option d4:=
 match C.P.underlying t,m with
 |some (.map jA _), .map r=>(match ab C h r with
  |some (.map cb eX)=>bP (mL C 20 jA B) (match findKey C h jA B cb 0 with
   |some (some (i,_))=>(match rm cb i with
    |some (e4,_,born)=>bP (ns 20 e4 B) (setObj C h j r (.map (cb.set i (B,v,born)) eX) undef) none
    |none=>none)
   |some none=>setObj C h j r (.map (cb++[(B,v,eX)]) (eX+1)) undef
   |none=>none) none
  |_=>none)
 |_,_=>none
def NC(x e:F):Bool:=match x,e with
    | .bool K, .bool b=>EB K b
    | .int B K, .int e4 b=>lY B e4&&w5 K b
    | .str K, .str b=>mx K b
    | .aP, .aP=>true
    | .cz, .cz=>true
    | .nilIface, .nilIface=>true
    |_,_=>false
def DJ:List F->List F->Bool
 |[],[]=>true
 |K::x,b::e=>NC K b&&DJ x e
 |_,_=>false
def known(f:Nat)(args:List F):List (Nat×List F×F)->Option F
 |[]=>none
 |(g,ct,v)::l=>bP (Nat.beq f g&&DJ args ct) (some v)<|known f args l
def rK(f:Nat)(args:List F):Option d4:=
 match C.hc f args with
 |some v=>some (.known f args v)
 |none=>(match C.P.funcs[f]? with
  |some fn=>(match fn.body with
   |some _=>some (.enter f args)
   |none=>none)
  |none=>none)
def Al(fn:Fn)(fH args:List F):Option d4:=
 match fn with
 | .func f=>rK C f (args++fH)
 | .yield l=>some (.round l args)
 |_=>none
def En(h:V an)(t:Nat)(v:F)(name:String)(args:List F):Option d4:=
 match C.P.info? t with
 |some i=>(match i.methods.find? (·.name==name)with
  |some m=>bP m.path.isEmpty (match m.func,C.P.underlying t with
   |some (f,true),some (.pointer _)=>rK C f (v::args)
   |some (f,false),some (.pointer J)=>(match lp C h J v with|some x=>rK C f (x::args)|none=>none)
   |some (f,false),some _=>rK C f (v::args)
   |_,_=>none) none
  |none=>none)
 |none=>none
def NY(h:V an)(j s:Nat)(K v:F):Option d4:=
 match K with
 | .ptr b Y=>bP (Nat.beq v.cells.length s&&Nat.blt 0 s) ((match tU C h b Y v.cells with|some T=>some (.fh undef T j)|none=>none))<|none
 |_=>none
def E9(t:Nat)(m B x:Operand)(h:V an)(j:Nat)(ay:Operand->Option F):Option d4:=
 match ay m,ay B,ay x with
 |some m,some B,some v=>Hb C h j t m B v
 |_,_,_=>none
def Ia(_:Nat)(_ _:Operand)(_:V an)(_:Nat)(_:Operand->Option F):Option d4:=(λ_:aZ=>none) C
def H2(_ _ _:Operand)(_:V an)(_:Nat)(_:Operand->Option F):Option d4:=(λ_:aZ=>none) C
def H9(t:Nat)(l c:Operand)(h:V an)(j:Nat)(ay:Operand->Option F):Option d4:=
 match C.P.underlying t,ay l,ay c with
 |some (.slice ee),some l,some c=>(match mU l,mU c,C.P.info? ee,sL C ee with
  |some l,some c,some i,some bt=>bP (Nat.ble l c&&Nat.ble c 1048576&&Nat.ble i.bytes 65536&&Nat.blt 0 i.size&&Nat.beq bt.cells.length i.size) (mV C h j (.cells (V.ofList (kz c bt.cells) 0 .nil) (c*i.size) .own) λb=> .slice b 0 l c)<|none
  |_,_,_,_=>none)
 |_,_,_=>none
def H8(t:Nat)(r:Operand)(h:V an)(j:Nat)(ay:Operand->Option F):Option d4:=
 match C.P.underlying t,ay r with
 |some (.map _ _),some (.int _ _)=>mV C h j (.map [] 0) λb=> .map b
 |_,_=>none
def Ig(s d:Nat)(x:Operand)(h:V an)(j:Nat)(ay:Operand->Option F):Option d4:=
 match C.P.underlying s,C.P.underlying d,ay x with
 |some .string,some (.slice J),some (.str l)=>(match C.P.underlying J with
  |some (.int .u8)=>s7 C h j l.length 1 (l.map λn=>F.int .u8 (Int.ofNat n))
  |_=>none)
 |some (.slice _),some (.slice J),some (.slice b Y len cap)=>(match C.P.underlying J with
  |some (.int .u8)=>bP (Nat.beq s d&&jV C b) (match ab C h b with
   |some (.cells c n .own)=>jj (bn C h b (some (.cells c n .marked))) λh=>some (.fh (.slice b Y len cap) h j)
   |some (.cells _ _ .marked)=>some (.val (.slice b Y len cap))
   |_=>none) none
  |_=>none)
 |_,_,_=>none
def Ic(t:Nat)(x:Operand)(h:V an)(j:Nat)(ay:Operand->Option F):Option d4:=
 match C.P.underlying t,ay x with
 |some .string,some (.str s)=>mV C h j (.oh s 0) λb=> .ptr b 0
 |some (.map _ _),some .lf=>mV C h j (.yM none 0 [] 0) λb=> .ptr b 0
 |some (.map _ _),some (.map r)=>(match ab C h r with
  |some (.map _ eX)=>mV C h j (.yM (some r) eX [] eX) λb=> .ptr b 0
  |_=>none)
 |_,_=>none
def oa(n:Nat):List Nat->Bool
 |[]=>false
 |K::l=>Nat.beq n K||oa n l
def wB(eI:Operand)(yI:Bool)(h:V an)(j:Nat)(ay:Operand->Option F):Option d4:=
 match ay eI with
 |some (.ptr r 0)=>bP (jV C r) (match ab C h r,yI with
  |some (.oh s pos),true=>bP (Nat.blt pos s.length) (match rm s pos with
    |some c=>bP (Nat.blt c 128) (setObj C h j r (.oh s (pos+1)) (.tuple [.bool true, .int .i64 (Int.ofNat pos), .int .i32 (Int.ofNat c)])) none
    |none=>none)
   (some (.val (.tuple [.bool false])))
  |some (.yM none _ _ _),false=>some (.val (.tuple [.bool false]))
  |_,_=>none) none
 |_=>none
def QD(x:Operand)(_:V an)(_:Nat)(ay:Operand->Option F):Option d4:=
 match ay x with|some (.iface t v)=>some (.panic (.iface t v))|_=>none
def Qm(c:Call)(_:V an)(_:Nat)(ay:Operand->Option F):Option d4:=
 match c with
 |⟨.value f,args,_⟩=>(match ay f,px ay args.toList with
  |some (.func fn first fH),some ct=>some (.defer ⟨.fn fn fH,first++ct⟩)
  |_,_=>none)
 |_=>none
def HW(b:Builtin)(args:Array Operand)(dg:Array TypeId)(h:V an)(j:Nat)(ay:Operand->Option F):Option d4:=
 match b,px ay args.toList with
 | .append,some [s,x]=>(match dg.toList with
   |st::ij::_=>(match C.P.underlying ij with
    |some (.int _)=>(match mU x with|some n=>KA C h j st s n|none=>none)
    |some (.slice _)=>Em C h j st s x
    |some .string=>Em C h j st s x
    |_=>none)
   |_=>none)
 | .recover,some []=>some .recover
 |_,_=>none
def Cx(c:Call)(h:V an)(j:Nat)(ay:Operand->Option F):Option d4:=
 match c with
 |⟨.value f,args,_⟩=>(match ay f,px ay args.toList with
  |some (.func fn first fH),some ct=>Al C fn fH (first++ct)
  |_,_=>none)
 |⟨.builtin b,args,dg⟩=>HW C b args dg h j ay
 |⟨.invoke r name,args,_⟩=>(match ay r,px ay args.toList with
  |some (.iface t v),some ct=>En C h t v name ct
  |_,_=>none)
def m7(Y:Op):aZ->V an->Nat->(Operand->Option F)->Option d4:=
 match Y with
 | .mapUpdate t m B x=>λC=>E9 C t m B x
 | .insert t m B x=>λC=>E9 C t m B x
 | .mapEntry t m B=>λC=>Ia C t m B
 | .entryStore _ m s x=>λC=>H2 C m s x
 | .makeSlice t l c=>λC=>H9 C t l c
 | .makeMap t (some r)=>λC=>H8 C t r
 | .convert s d x=>λC=>Ig C s d x
 | .range t x=>λC=>Ic C t x
 | .next eI yI=>λC=>wB C eI yI
 | .panic x=>λ_=>QD x
 | .defer c=>λ_=>Qm c
 | .call c=>λC=>Cx C c
 |_=>λ_ _ _ _=>none
end ax
def kK(x:ka):List (Nat×F)->V F->Option F:=
 match x with
 | .v aa=>λaw _=>ep aw aa
 | .t n=>λ_ M=>M.get n
 | .c K=>λ_ _=>some K
def Ay(aw:List (Nat×F))(M:V F):List ka->Option (List F)
 |[]=>some []
 |x::l=>match kK x aw M with
  |none=>none
  |some v=>match Ay aw M l with
   |none=>none
   |some r=>some (v::r)
def iX(b3:List (Nat×Nat))(aw:List (Nat×F))(M:V F)(Y:Operand):Option F:=match Y with
 | .tmp t=>(match ep b3 t with|some aa=>ep aw aa|none=>M.get t)
 | .const v=>DD v
 | .global g=>some (.ptr g 0)
 | .func f=>some (.func (.func f) [] [])
def ba(d:Nat)(v:F):Option F:=match v with| .ptr b Y=>some (.ptr b (Y+d))|_=>none
def Og(c:F)(K b:ka)(aw:List (Nat×F))(M:V F):Option F:=match c with
 | .bool c=>bP c (kK K aw M) (kK b aw M)
 |_=>none
def Kj(n a1:Nat)(x:F)(i:Nat):Option F:=match x with| .ptr b Y=>bP (Nat.blt i n) (some (.ptr b (Y+i*a1))) none|_=>none
def BP(a1:Nat)(x:F)(i:Nat):Option F:=match x with
 | .slice b Y len _=>bP (Nat.blt i len) (some (.ptr b (Y+i*a1))) none
 | .en b Y len _=>bP (Nat.blt i len) (some (.ptr b (Y+i*a1))) none
 |_=>none
def cm(v:F):Option F:=match v with
 | .ptr b Y=>some (.ptr b Y)
 | .func fn K b=>(match fn with| .func f=>some (.func (.func f) K b)| .yield f=>some (.func (.yield f) K b)|_=>none)
 | .iface t v=>some (.iface t v)
 |_=>none
def cM(i:Nat)(v:F):Option F:=match v with| .tuple bo=>rm bo i|_=>none
def gS(Y:jC):aZ->V an->List (Nat×F)->V F->Option F:=
 match Y with
 | .Ds x=>λ_ _=>kK x
 | .pick c K b=>λ_ _ aw M=>(match kK c aw M with|some c=>Og c K b aw M|none=>none)
 | .fT K=>λC h aw M=>(match kK K aw M with|some K=>ao C h K|none=>none)
 | .Bi n K=>λC h aw M=>(match kK K aw M with|some K=>cg C h n K|none=>none)
 | .off d x=>λ_ _ aw M=>(match kK x aw M with|some K=>ba d K|none=>none)
 | .Bb n a1 x i=>λ_ _ aw M=>(match kK x aw M with|some K=>(match kK i aw M with|some i=>(match mU i with|some i=>Kj n a1 K i|none=>none)|none=>none)|none=>none)
 | .Bc a1 x i=>λ_ _ aw M=>(match kK x aw M with|some K=>(match kK i aw M with|some i=>(match mU i with|some i=>BP a1 K i|none=>none)|none=>none)|none=>none)
 | .Dz x=>λ_ _ aw M=>(match kK x aw M with|some K=>cm K|none=>none)
 | .I4 op x e=>λ_ _ aw M=>(match kK x aw M with|some K=>(match kK e aw M with|some b=>aF op K b|none=>none)|none=>none)
 | .ext i x=>λ_ _ aw M=>(match kK x aw M with|some K=>cM i K|none=>none)
 | .hV b3 Y=>λC h aw M=>nH Y C h (iX b3 aw M)
 |_=>λ_ _ _ _=>none
def nO(Y:jC):aZ->Nat->List (Nat×F)->V F->Option (F×an):=
 match Y with
 | .make b3 Y=>λC b aw M=>p1 Y C (iX b3 aw M) b
 |_=>λ_ _ _ _=>none
def hI(Y:jC):aZ->V an->Nat->List (Nat×F)->V F->Option d4:=
 match Y with
 | .st n K v=>λC h j aw M=>(match kK K aw M with|some K=>(match kK v aw M with|some v=>NY C h j n K v|none=>none)|none=>none)
 | .call f args=>λC _ _ aw M=>(match Ay aw M args with|some ct=>rK C f ct|none=>none)
 | .ff b3 Y=>λC h j aw M=>m7 Y C h j (iX b3 aw M)
 |_=>λ_ _ _ _ _=>none
inductive afZ where|hV|make|ff
def mu(Y:jC):afZ:=match Y with
 | .st .. => .ff| .call .. => .ff| .ff .. => .ff
 | .make .. => .make
 |_=> .hV
def M9(Y:jC)(C:aZ)(h:V an)(j:Nat)(aw:List (Nat×F))(M:V F):Option d4:=
 p9 j λj=>(match nO Y C j aw M with|some (v,cT)=>jj (bn C h j (some cT)) λh=>some (.fh v h (j+1))|none=>none)
def fq(m i:Nat):Bool:=Nat.beq (Nat.mod (Nat.div m (Nat.pow 2 i)) 2) 1
def mB(b3:List (Nat×Nat))(Y:Operand):Option ka:=match Y with
 | .tmp t=>(match ep b3 t with|some aa=>some (.v aa)|none=>some (.t t))
 | .const v=>(match DD v with|some K=>some (.c K)|none=>none)
 | .global g=>some (.c (.ptr g 0))
 | .func f=>some (.c (.func (.func f) [] []))
def GP(b3:List (Nat×Nat)):List Operand->Option (List ka)
 |[]=>some []
 |x::l=>match mB b3 x,GP b3 l with|some v,some r=>some (v::r)|_,_=>none
def aso(C:aZ)(s d:Nat):Bool:=match C.P.underlying s,C.P.underlying d with
 |some .string,some (.slice _)=>true
 |some (.slice _),some (.slice _)=>true
 |_,_=>false
def asl(C:aZ)(t:Nat):Bool:=match C.P.underlying t with|some (.int _)=>true|_=>false
def ls(C:aZ)(b3:List (Nat×Nat))(Y:Op):Option jC:=
 match Y with
 | .move x| .assign x=>(match mB b3 x with|some x=>some (.Ds x)|none=>none)
 | .pick c K b=>(match mB b3 c,mB b3 K,mB b3 b with|some c,some K,some b=>some (.pick c K b)|_,_,_=>none)
 | .load t K=>(match mB b3 K,De C t,jb C t with
   |some K,some true,some s=>some (.Bi s K)
   |some K,some false,_=>some (.fT K)
   |_,_,_=>none)
 | .fieldAddr s x f=>(match C.P.underlying s,mB b3 x with
   |some (.struct jH),some x=>(match rm jH.toList f with
    |some rS=>(match jb C rS.type with|some bt=>bP (Nat.beq bt 0) (none)<|some (.off rS.offset x)|none=>none)
    |none=>none)
   |_,_=>none)
 | .indexAddr t x i=>(match C.P.underlying t,mB b3 x,mB b3 i with
   |some (.array n ee),some x,some i=>(match jb C ee with|some a1=>some (.Bb n a1 x i)|none=>none)
   |some (.slice ee),some x,some i=>(match jb C ee with|some a1=>some (.Bc a1 x i)|none=>none)
   |_,_,_=>none)
 | .nilCheck x=>(match mB b3 x with|some x=>some (.Dz x)|none=>none)
 | .binOp op t x e GU=>bP (asl C t) ((match mB b3 x,mB b3 e with|some x,some e=>some (.I4 op x e)|_,_=>none))<|some (.hV b3 (.binOp op t x e GU))
 | .extract x i=>(match mB b3 x with|some x=>some (.ext i x)|none=>none)
 | .store t K x=>(match mB b3 K,mB b3 x,jb C t with|some K,some x,some s=>some (.st s K x)|_,_,_=>none)
 | .call ⟨.value (.func f),args,dg⟩=>(match GP b3 args.toList with|some ct=>some (.call f ct)|none=>none)
 | .call ⟨.builtin b,args,dg⟩=>(match b with
   | .len| .cap| .max| .min=>some (.hV b3 (.call ⟨.builtin b,args,dg⟩))
   |_=>some (.ff b3 (.call ⟨.builtin b,args,dg⟩)))
 | .call c=>some (.ff b3 (.call c))
 | .convert s d x=>bP (aso C s d) (some (.ff b3 (.convert s d x)))<|some (.hV b3 (.convert s d x))
 | .alloc t=>some (.make b3 (.alloc t))
 | .box t x=>some (.make b3 (.box t x))
 | .buildSlice t l p=>some (.make b3 (.buildSlice t l p))
 | .makeMap t none=>some (.make b3 (.makeMap t none))
 | .makeMap t (some r)=>some (.ff b3 (.makeMap t (some r)))
 | .mapUpdate t m B x=>some (.ff b3 (.mapUpdate t m B x))
 | .insert t m B x=>some (.ff b3 (.insert t m B x))
 | .mapEntry t m B=>some (.ff b3 (.mapEntry t m B))
 | .entryStore t m s x=>some (.ff b3 (.entryStore t m s x))
 | .makeSlice t l c=>some (.ff b3 (.makeSlice t l c))
 | .range t x=>some (.ff b3 (.range t x))
 | .next i s=>some (.ff b3 (.next i s))
 | .panic x=>some (.ff b3 (.panic x))
 | .defer c=>some (.ff b3 (.defer c))
 |Y=>some (.hV b3 Y)
def wn(aa:Nat):List (Nat×Nat)->Option Nat
 |[]=>none
 |(t,i)::l=>bP (Nat.beq i aa) (some t)<|wn aa l
def Hm(eh:List (Nat×Nat))(g:Option (Nat×Bool)):Option (Option (Nat×Bool)):=match g with
 |none=>some none
 |some (aa,lk)=>(match wn aa eh with
  |some t=>(match ep eh t with
   |some oR=>bP (Nat.beq aa oR) (some (some (aa,lk)))<|none
   |none=>none)
  |none=>none)
def xK(Y:Oper)(i:Nat)(eh:List (Nat×Nat)):List (Nat×Nat):=match Y.dst with|some d=>(d,i)::eh|none=>eh
def KY(n:Nat)(Y:Oper):Bool:=match Y.dst with|some d=>Nat.blt d n|none=>true
def yP(C:aZ)(av:Nat)(b3:List (Nat×Nat))(Y:Operand):Bool:=match Y with
 | .tmp t=>(match ep b3 t with|some _=>true|none=>fq av t)
 | .global g=>Nat.blt g C.o2
 |_=>true
def DF(C:aZ)(av:Nat)(b3:List (Nat×Nat)):List Operand->Bool
 |[]=>true
 |x::l=>yP C av b3 x&&DF C av b3 l
def rO(C:aZ)(n av:Nat):List Oper->Nat->List (Nat×Nat)->Option (List fi)
 |[],_,_=>some []
 |Y::l,i,eh=>p9 i λi=>match Hm eh Y.guard,ls C eh Y.op with
  |some g,some op=>bP (KY n Y&&DF C av eh Y.op.operands.toList) (match rO C n av l (i+1) (xK Y i eh)with|some r=>some (⟨i,g,op⟩::r)|none=>none) none
  |_,_=>none
def kL(av:Nat):List Oper->Nat->List (Nat×Nat)
 |[],_=>[]
 |Y::l,i=>match Y.dst with
  |some d=>bP (fq av d) ((i,d)::kL av l (i+1))<|kL av l (i+1)
  |none=>kL av l (i+1)
def dstsOf:List Oper->List Nat
 |[]=>[]
 |Y::l=>match Y.dst with|some d=>d::dstsOf l|none=>dstsOf l
structure Oo where
 rest:List fi
 fin:List (Nat×Nat)
def Jv(C:aZ)(n:Nat)(ax:Array Oper)(av:Nat):Option Oo:=
 match rO C n av ax.toList 0 []with
 |some cs=>some ⟨cs,kL av ax.toList 0⟩
 |none=>none
def Gp(Y:Operand)(m:Nat):Nat:=match Y with| .tmp t=>Nat.lor m (Nat.pow 2 t)|_=>m
def Gq(l:List Operand):Nat:=l.foldr Gp 0
def Hy(Y:Oper):Nat:=match Y.dst with|some d=>Nat.pow 2 d|none=>0
def Lx(eh:List (Nat×Nat))(g:Option (Nat×Bool)):Nat:=match g with
 |none=>0
 |some (aa,_)=>(match wn aa eh with|some t=>Nat.pow 2 t|none=>0)
def Cl(ih:List (Nat×Nat))(J:Edge)(m:Nat):Nat:=
 bP (fq m J.on) (m)<|bP (Region.binds .any J) ((match ep ih J.on with|some B=>Nat.lor (Nat.lor m B) (Nat.pow 2 J.on)|none=>m))<|m
structure gh where
 i:Nat
 m:Nat
 r:Nat
 w:Nat
def Bp:List Oper->Nat->List (Nat×Nat)->List (Nat×Nat)->List gh
 |[],_,_,_=>[]
 |Y::l,i,eh,ih=>p9 i λi=>p9 (Y.after.toList.foldr (Cl ih) 0) λm=>
  ⟨i,m,Nat.lor (Gq Y.op.operands.toList) (Lx eh Y.guard),Hy Y⟩::Bp l (i+1) (xK Y i eh) ((i,m)::ih)
def Nr(K b:gh):Bool:=
 fq b.m K.i||(Nat.beq (Nat.land K.w (Nat.lor b.r b.w)) 0&&Nat.beq (Nat.land b.w K.r) 0)
def Nu(K:gh):List gh->Bool
 |[]=>true
 |b::l=>Nr K b&&Nu K l
def JE:List gh->Bool
 |[]=>true
 |K::l=>Nu K l&&JE l
def Iu:List gh->Bool
 |[]=>true
 |K::l=>(match l with|[]=>true|b::_=>fq b.m K.i)&&Iu l
def DE:List Oper->Nat->Bool
 |[],_=>true
 |Y::l,i=>Y.after.toList.all (λJ=> !Region.binds .any J||Nat.blt J.on i)&&DE l (i+1)
def ua(m:Nat):List gh->Nat
 |[]=>0
 |a::l=>bP (fq m a.i) (Nat.succ (ua m l))<|ua m l
def AU(i:Nat):List gh->Nat
 |[]=>0
 |a::l=>bP (fq a.m i) (0)<|Nat.succ (AU i l)
structure pk where
 x:fi
 bS:Nat
 aJ:Nat
def nr(Y:jC):Bool:=match mu Y with| .ff=>true|_=>false
def Fh:List gh->List fi->List (gh×fi)
 |p::dq,c::cs=>bP (nr c.op) ((p,c)::Fh dq cs)<|Fh dq cs
 |_,_=>[]
def F4(aD:List gh):List gh->List fi->List pk
 |p::dq,c::cs=>bP (nr c.op) (F4 aD dq cs)<|⟨c,ua p.m aD,AU p.i aD⟩::F4 aD dq cs
 |_,_=>[]
def sQ(B:Nat):List pk->List fi
 |[]=>[]
 |l::ig=>bP (Nat.beq l.bS B) (l.x::sQ B ig)<|sQ B ig
def DN(B:Nat):List pk->List fi
 |[]=>[]
 |l::ig=>bP (Nat.blt l.bS B&&Nat.ble B l.aJ&&BH l.x.op) (l.x::DN B ig)<|DN B ig
def yN(ig:List pk):Nat->List (gh×fi)->List wa
 |B,[]=>[⟨sQ B ig,DN B ig,none⟩]
 |B,(_,ah)::l=>⟨sQ B ig,DN B ig,some ah⟩::yN ig (B+1) l
def qa:List (gh×fi)->List gh
 |[]=>[]
 |(p,_)::l=>p::qa l
structure On where
 kY:List wa
 fin:List (Nat×Nat)
def Ju(C:aZ)(n:Nat)(ax:Array Oper)(av:Nat):Option On:=
 match rO C n av ax.toList 0 []with
 |none=>none
 |some cs=>(λall=>(λaD=>bP (DE ax.toList 0&&JE all&&Iu (qa aD)) (some ⟨yN (F4 (qa aD) all cs) 0 aD,kL av ax.toList 0⟩)<|none) (Fh all cs)) (Bp ax.toList 0 [] [])
def XG:List Oper->Nat->Nat->Nat
 |[],_,r=>r
 |Y::l,Xe,r=>XG l (Nat.lor Xe (Hy Y)) ((λrd=>Nat.lor r (Nat.xor rd (Nat.land rd Xe))) (Gq Y.op.operands.toList))
def j4:Code->Nat
 | .region _ ax _=>XG ax.toList 0 0
 | .seq K b=>Nat.lor (j4 K) (j4 b)
 | .cond c K b=>Gp c (Nat.lor (j4 K) (j4 b))
 | .block _ b=>j4 b
 | .loop b=>j4 b
 | .scope b=>j4 b
 | .rangeFunc f _ K b=>Gp f (Nat.lor (j4 K) (j4 b))
 |_=>0
def nv(l:List ResultVar):Nat:=l.foldr (λx r=>match x with| .tmp t=>Nat.lor r (Nat.pow 2 t)| .cell K _=>Nat.lor r (Nat.pow 2 K)) 0
def lu(C:aZ)(av:Nat):Code->Bool
 | .seq K b=>lu C av K&&lu C av b
 | .cond c K b=>yP C av [] c&&(lu C av K&&lu C av b)
 | .block _ b=>lu C av b
 | .loop b=>lu C av b
 | .scope b=>lu C av b
 | .rangeFunc f _ K b=>yP C av [] f&&(lu C av K&&lu C av b)
 |_=>true
def yS(av:Nat):List ResultVar->Bool
 |[]=>true
 | .tmp t::l=>fq av t&&yS av l
 | .cell K _::l=>fq av K&&yS av l
end
end Go.bi
@[match_pattern]abbrev Go.bi.F.Z(x:Int):Go.bi.F:=.int .i64 x
namespace Go.bi
@[simp] def eP{α:Type _}(K b:α):bP true K b=K:=rfl
@[simp] def jF{α:Type _}(K b:α):bP false K b=b:=rfl
def fw{α:Type _}(c:Bool)(K b:α):bP c K b=if c=true then K else b:=by cases c<;>rfl
def hD{α:Type _}(x e:Nat)(K b:α):bP (Nat.beq x e) K b=if x=e then K else b:=by
 rw[fw];by_cases a:x=e
 ·rw[Zq a,Zq (Nat.beq_eq▸a)]
 ·rw[Zg a,Zg (λJ=>a (Zj J))]
@[simp] def e0{α:Type _}(c:Bool)(K:Option α)(v:α):bP c K none=some v↔c=true/\K=some v:=by cases c<;>simp
@[simp] def lS{eO:Type}(n:Nat)(B:Nat->eO):p9 n B=B n:=by cases n<;>rfl
@[simp] def ES{eO:Type}(n:Int)(B:Int->eO):PU n B=B n:=by
  cases n with
  |ofNat m=>exact lS m λm=>B (.ofNat m)
  |negSucc m=>exact lS m λm=>B (.negSucc m)
@[simp] def g8{α eO:Type}(t:V α)(B:V α->eO):jj t B=B t:=by cases t<;>rfl
@[simp] def aks{α:Type}(aa:Nat):ep ([]:List (Nat×α)) aa=none:=rfl
def qS{α:Type}(K:Nat)(b:α)(l:List (Nat×α))(aa:Nat):ep ((K,b)::l) aa=if K=aa then some b else ep l aa:=by
 show bP (Nat.beq K aa) (some b) (ep l aa)=_
 rw[hD]
@[simp] def pL{α:Type}(l:List α):∀i,rm l i=l[i]? :=by
  induction l with
  |nil=>intro i;rfl
  |cons K l ak=>intro i;cases i with
   |zero=>rfl
   |succ aa=>exact ak aa
namespace V
variable{α:Type}
@[simp] def azn(i:Nat):(V.nil:V α).get i=none:=rfl
@[simp] def azo(v:Option α)(l r:V α):(V.node v l r).get 0=v:=rfl
def AD(v:Option α)(l r:V α)(aa:Nat):(V.node v l r).get (aa+1)=if aa%2=0 then l.get (aa/2)else r.get (aa/2):=by
 show bP (Nat.beq (aa%2) 0) (l.get (aa/2)) (r.get (aa/2))=_
 rw[hD]
def awL(f:Nat)(K:Option α):rq (f+1) V.nil 0 K= .node K .nil .nil:=rfl
def awK(f aa:Nat)(K:Option α):rq (f+1) V.nil (aa+1) K=
 if aa%2=0 then .node none (rq f .nil (aa/2) K) .nil else .node none .nil (rq f .nil (aa/2) K):=by
 show bP (Nat.beq (aa%2) 0) (jj (rq f .nil (aa/2) K) λb8=>V.node none b8 V.nil) (jj (rq f .nil (aa/2) K) λgO=>V.node none V.nil gO)=_
 rw[hD,g8,g8]
def awN(f:Nat)(v:Option α)(l r:V α)(K:Option α):rq (f+1) (.node v l r) 0 K= .node K l r:=rfl
def awM(f aa:Nat)(v:Option α)(l r:V α)(K:Option α):rq (f+1) (.node v l r) (aa+1) K=
 if aa%2=0 then .node v (rq f l (aa/2) K) r else .node v l (rq f r (aa/2) K):=by
 show bP (Nat.beq (aa%2) 0) (jj (rq f l (aa/2) K) λb8=>V.node v b8 r) (jj (rq f r (aa/2) K) λgO=>V.node v l gO)=_
 rw[hD,g8,g8]
def anx:∀(f:Nat) (t:V α) (i aa:Nat) (K:Option α),i<f->(rq f t i K).get aa=if i=aa then K else t.get aa:=by
 intro f
 induction f with
 |zero=>intro t i aa K a;omega
 |succ f ak=>
  intro t i aa K a
  cases i with
  |zero=>
   cases t with
   |nil=>rw[awL];cases aa with
    |zero=>simp
    |succ aa=>rw[AD];simp
   |node v l r=>rw[awN];cases aa with
    |zero=>simp
    |succ aa=>rw[AD,AD];simp
  |succ i=>
   have aJ:i/2<f:=Zo
   cases t with
   |nil=>
    rw[awK]
    cases aa with
    |zero=>split<;>simp
    |succ aa=>
     by_cases J:i%2=0
     ·rw[Zq J,AD]
      by_cases ia:aa%2=0
      ·rw[Zq ia,ak _ _ _ _ aJ]
       by_cases am:i/2=aa/2
       ·rw[Zq am,Zq Zo]
       ·rw[Zg am,Zg Zo];rfl
      ·rw[Zg ia,Zg Zo];rfl
     ·rw[Zg J,AD]
      by_cases ia:aa%2=0
      ·rw[Zq ia,Zg Zo];rfl
      ·rw[Zg ia,ak _ _ _ _ aJ]
       by_cases am:i/2=aa/2
       ·rw[Zq am,Zq Zo]
       ·rw[Zg am,Zg Zo];rfl
   |node v l r=>
    rw[awM]
    cases aa with
    |zero=>split<;>simp
    |succ aa=>
     rw[AD v l r]
     by_cases J:i%2=0
     ·rw[Zq J,AD]
      by_cases ia:aa%2=0
      ·rw[Zq ia,Zq ia,ak _ _ _ _ aJ]
       by_cases am:i/2=aa/2
       ·rw[Zq am,Zq Zo]
       ·rw[Zg am,Zg Zo]
      ·rw[Zg ia,Zg ia,Zg Zo]
     ·rw[Zg J,AD]
      by_cases ia:aa%2=0
      ·rw[Zq ia,Zq ia,Zg Zo]
      ·rw[Zg ia,Zg ia,ak _ _ _ _ aJ]
       by_cases am:i/2=aa/2
       ·rw[Zq am,Zq Zo]
       ·rw[Zg am,Zg Zo]
def kc(t:V α)(i aa:Nat)(K:Option α):(t.set i K).get aa=if i=aa then K else t.get aa:=anx _ _ _ _ _ Zo
def Lp(l:List α):∀(i:Nat) (t:V α) (aa:Nat),(ofList l i t).get aa=if i<=aa/\aa<i+l.length then l[aa-i]? else t.get aa:=by
 induction l with
 |nil=>intro i t aa;simp only[ofList,ZU];rw[Zg Zo]
 |cons K l ak=>
  intro i t aa
  simp only[ofList,g8]
  rw[ak,kc]
  by_cases J:i=aa
  ·subst J;rw[Zg Zo,Zq rfl,Zq Zs];simp
  ·rw[Zg J]
   by_cases am:i+1<=aa/\aa<i+1+l.length
   ·rw[Zq am,Zq (by simp;omega)]
    have:aa-i=(aa-(i+1))+1:=Zo
    rw[this,ZP]
   ·rw[Zg am,Zg (by simp;omega)]
def P8(t:V α):∀(n Y:Nat) (l:List α),t.km Y n=some l->l.length=n/\∀i,i<n->t.get (Y+i)=l[i]? :=by
 intro n
 induction n with
 |zero=>intro Y l a;simp[km]at a;subst a;simp
 |succ n ak=>
  intro Y l a
  simp only[km]at a
  cases b5:t.get Y with
  |none=>simp[b5]at a
  |some K=>
   simp only[b5]at a
   cases Z:km t (Y+1) n with
   |none=>simp[Z]at a
   |some r=>
    simp only[Z,Zf]at a
    subst a
    obtain⟨Q,U⟩:=ak _ _ Z
    refine⟨by simp[Q],λi aJ=> ?_⟩
    cases i with
    |zero=>simpa using b5
    |succ i=>rw[show Y+(i+1)=Y+1+i by omega,U i Zo];simp
end V
def TU(l:List F):∀(c:V F) (Y:Nat),dQ c Y l=V.ofList l Y c:=by
 induction l with
 |nil=>intro c Y;rfl
 |cons v l ak=>intro c Y;simp only[dQ,V.ofList,g8];exact ak _ _
structure mc where
 cE:Nat
 eb:Nat
 room:Nat
 deriving Inhabited
abbrev c6:=Nat->mc
def mM(R:c6):Fn->Fn
 | .yield l=> .yield (R l).cE
 |f=>f
def fX(s:List Nat):ByteArray:=⟨(s.map UInt8.ofNat).toArray⟩
mutual
def aQ(R:c6):F->Value
 | .bool b=> .bool b
 | .int B n=> .int B n
 | .str s=> .string (fX s)
 | .ptr b Y=> .pointer (some ⟨(R b).cE,(R b).eb+Y,none⟩)
 | .cz=> .pointer none
 | .slice b Y len cap=> .slice (some ⟨(R b).cE,(R b).eb+Y,none⟩) len cap
 | .en b Y len a1=> .slice (some ⟨(R b).cE,(R b).eb+Y,none⟩) len (((R b).room-Y)/a1)
 | .aP=> .slice none 0 0
 | .map m=> .map (some (R m).cE)
 | .lf=> .map none
 | .func fn K b=> .func (mM R fn) (bY R K).toArray (bY R b).toArray
 | .nilFunc=> .nilFunc
 | .iface t v=> .iface t (aQ R v)
 | .nilIface=> .nilIface
 | .agg cs=> .agg (bY R cs).toArray
 | .tuple bo=> .tuple (bY R bo).toArray
def bY(R:c6):List F->List Value
 |[]=>[]
 |v::l=>aQ R v::bY R l
end
def pt(R:c6)(l:List F):bY R l=l.map (aQ R):=by
 induction l with
 |nil=>rfl
 |cons v l ak=>simp[bY,ak]
def Lr(af:Nat->Prop):Fn->Prop
 | .yield l=>af l
 | .func _=>True
 |_=>False
mutual
def cj(af:Nat->Prop):F->Prop
 | .bool _=>True
 | .int _ _=>True
 | .str s=>∀x∈s,x<256
 | .ptr b _=>af b
 | .cz=>True
 | .slice b _ _ _=>af b
 | .en b _ _ _=>af b
 | .aP=>True
 | .map m=>af m
 | .lf=>True
 | .func fn K b=>Lr af fn/\es af K/\es af b
 | .nilFunc=>True
 | .iface _ v=>cj af v
 | .nilIface=>True
 | .agg cs=>es af cs
 | .tuple bo=>es af bo
def es(af:Nat->Prop):List F->Prop
 |[]=>True
 |v::l=>cj af v/\es af l
end
def uk(af:Nat->Prop)(l:List F):es af l↔∀v∈l,cj af v:=by
 induction l with
 |nil=>simp[es]
 |cons v l ak=>simp[es,ak]
mutual
def Pk{R ik:c6}{af:Nat->Prop}(a:∀b,af b->R b=ik b):∀v,cj af v->aQ R v=aQ ik v
 | .bool _,_=>rfl
 | .int _ _,_=>rfl
 | .str _,_=>rfl
 | .ptr b Y,g=>by simp only[aQ,a b g]
 | .cz,_=>rfl
 | .slice b Y l c,g=>by simp only[aQ,a b g]
 | .en b Y l c,g=>by simp only[aQ,a b g]
 | .aP,_=>rfl
 | .map m,g=>by simp only[aQ,a m g]
 | .lf,_=>rfl
 | .func fn K b,g=>by
   obtain⟨b4,b7,cN⟩:=g
   have J:mM R fn=mM ik fn:=by
    cases fn<;>simp only[mM]
    rw[a _ b4]
   simp only[aQ,J,EL a K b7,EL a b cN]
 | .nilFunc,_=>rfl
 | .iface t v,g=>by simp only[aQ,Pk a v g]
 | .nilIface,_=>rfl
 | .agg cs,g=>by simp only[aQ,EL a cs g]
 | .tuple bo,g=>by simp only[aQ,EL a bo g]
def EL{R ik:c6}{af:Nat->Prop}(a:∀b,af b->R b=ik b):∀l,es af l->bY R l=bY ik l
 |[],_=>rfl
 |v::l,g=>by simp only[bY,Pk a v g.1,EL a l g.2]
end
mutual
def oE{af dk:Nat->Prop}(a:∀b,af b->dk b):∀v,cj af v->cj dk v
 | .bool _,_=>trivial
 | .int _ _,_=>trivial
 | .str _,g=>g
 | .ptr b _,g=>a b g
 | .cz,_=>trivial
 | .slice b _ _ _,g=>a b g
 | .en b _ _ _,g=>a b g
 | .aP,_=>trivial
 | .map m,g=>a m g
 | .lf,_=>trivial
 | .func fn K b,g=>⟨by cases fn<;>first|exact a _ g.1|exact g.1,qZ a K g.2.1,qZ a b g.2.2⟩
 | .nilFunc,_=>trivial
 | .iface _ v,g=>oE a v g
 | .nilIface,_=>trivial
 | .agg cs,g=>qZ a cs g
 | .tuple bo,g=>qZ a bo g
def qZ{af dk:Nat->Prop}(a:∀b,af b->dk b):∀l,es af l->es dk l
 |[],_=>trivial
 |v::l,g=>⟨oE a v g.1,qZ a l g.2⟩
end
end Go.bi

namespace Go.bi
open Go.RowKit (Below)
structure je(R:c6)(af:Nat->Prop)(n av:Nat)(M:V F)(tmps:Array Value):Prop where
 size:tmps.size=n
 val:∀t v,fq av t=true->M.get t=some v->tmps[t]? =some (aQ R v)/\cj af v
def Ov(C:aZ)(fn av:Nat):Prop:=∃f,C.P.funcs[fn]? =some f/\yS av f.results.toList=true
def FW(c:Code):Prop:=c= .ret\/∃id,c= .exit id
def Cb(R:c6):Oj->Target
 | .fn fn fH=> .fn (mM R fn) (bY R fH).toArray
 | .collected r=> .collected (R r).cE
def lr(R:c6)(d:hA):Deferred:=⟨Cb R d.target,(bY R d.args).toArray⟩
def anI(af:Nat->Prop):Oj->Prop
 | .fn fn fH=>Lr af fn/\es af fH
 | .collected r=>af r
def wu(af:Nat->Prop)(d:hA):Prop:=anI af d.target/\es af d.args
def Ej(st:nF)(n:Nat)(pl:mc)(a1 bS aJ:Nat):Prop:=match st with
 | .own=>bS=aJ
 | .marked=>bS=aJ\/a1<=bS
 | .grow _=>(bS=aJ\/a1<=bS)/\n<=pl.room/\pl.eb+pl.room<=a1
 | .jR=>True/\n<=pl.room/\pl.eb+pl.room<=a1
def Ej.free{st:nF}{n:Nat}{pl:mc}{a1 bS aJ:Nat}(a:Ej st n pl a1 bS aJ)(kS:st≠ .jR):aJ<=bS\/a1<=bS:=by
 cases st with
 |own=>exact .inl (za a.symm)
 |marked=>exact a.imp (λJ=>za J.symm) id
 |grow _=>exact a.1.imp (λJ=>za J.symm) id
 |jR=>exact absurd rfl kS
def lx(R:c6)(J:F×F×Nat):MapEntry:=⟨aQ R J.1,aQ R J.2.1,J.2.2⟩
def jT(C:aZ)(R:c6)(af:Nat->Prop)(Y:an)(pl:mc)(w:World):Prop:=match Y with
 | .cells c n st=>∃co ty bS aJ,w.heap[pl.cE]? =some (.cells co ty (bS,aJ))/\Ej st n pl co.size bS aJ/\pl.eb+n<=co.size/\
    ∀i v,c.get i=some v->co[pl.eb+i]? =some (aQ R v)/\cj af v
 | .map cb eX=>∃co,w.heap[pl.cE]? =some (.map co eX)/\co.toList=cb.map (lx R)/\∀J∈cb,cj af J.1/\cj af J.2.1
 | .look cb=>∃(co:Array MapEntry) (eX:Nat) (lR:List (F×F×Nat)),w.heap[pl.cE]? =some (.map co eX)/\co.toList=lR.map (lx R)/\(lR.map λJ=>(J.1,J.2.1)).Perm cb/\∀J∈lR,cj af J.1/\cj af J.2.1
 | .oh s pos=>pl.eb=0/\w.heap[pl.cE]? =some (.stringIter (fX s) pos)/\∀x∈s,x<256
 | .yM m vw seen st=>pl.eb=0/\w.heap[pl.cE]? =some (.mapIter (m.map λb=>(R b).cE) vw seen.toArray st)/\∀b,m=some b->af b
 | .Ga m vw n cH st m9=>pl.eb=0/\af m/\∃seen:List Nat,w.heap[pl.cE]? =some (.mapIter (some (R m).cE) vw seen.toArray st)/\(cH.filter λb=> !seen.contains b).length<=n/\∀b,m9=some b->acT seen=some b
 | .loop state pending fn n av M params assign body bd=>∃tmps,w.heap[pl.cE]? =some (.loop ⟨state,pending,fn,tmps,params.toArray,assign,body,(R bd).cE⟩)/\je R af n av M tmps/\af bd/\
    lu C av assign=true/\lu C av body=true/\(∀c,pending=some c->FW c)/\Ov C fn av
 | .deferred pr=>w.heap[pl.cE]? =some (.deferred (pr.map λl=>l.map (lr R)))/\∀l,pr=some l->∀d∈l,wu af d
def OM(Y o':an)(b dP:Nat):Prop:=
 (∃c n f0 aV,Y= .cells c n .jR/\o'= .cells f0 aV .jR)\/
 (∃c n l f0 aV,Y= .cells c n (.grow l)/\o'= .cells f0 aV .jR/\dP∈l/\aV<=n)\/
 (∃c n l f0 aV,o'= .cells f0 aV (.grow l)/\Y= .cells c n .jR/\b∈l/\n<=aV)
def v6(C:aZ)(af:Nat->Prop)(Y:an):Prop:=(∀c n l,Y= .cells c n (.grow l)->∀x∈l,af x/\C.a8<=x)/\∀c n st,Y= .cells c n st->∀i v,c.get i=some v->i<n
structure dl(C:aZ)(R:c6)(af:Nat->Prop)(h:V an)(j bj:Nat)(w:World):Prop where
 a8:C.a8<=j
 lt:∀b,af b->b<j
 vl:∀b Y,ab C h b=some Y->b<j
 obj:∀b Y,ab C h b=some Y->af b->jT C R af Y (R b) w
 sep:∀b dP Y o',ab C h b=some Y->ab C h dP=some o'->af b->af dP->b≠dP->C.a8<=b->(R b).cE=(R dP).cE->OM Y o' b dP/\(R b).eb=(R dP).eb
 base:∀b Y,C.a8<=b->ab C h b=some Y->af b->bj<=(R b).cE
 fm:∀b Y,ab C h b=some Y->af b->v6 C af Y
def jd(R:c6)(af:Nat->Prop)(ay:Operand->Value)(eA:Operand->Option F)(l:List Operand):Prop:=
 ∀x∈l,∀v,eA x=some v->ay x=aQ R v/\cj af v
section
variable{C:aZ}{R:c6}{af:Nat->Prop}{h:V an}{j bj:Nat}{w:World}
def O9(s:ByteArray):fX (s.data.toList.map (·.toNat))=s:=by
 unfold fX
 rw[YK]
 have:(UInt8.ofNat∘λx:UInt8=>x.toNat)=id:=by funext x;simp
 rw[this]
 simp
def atU{α eO:Type}(f:α->Option eO):∀(l:List α) (r:List eO),Bn f l=some r->r.length=l.length/\∀(i:Nat) (K:α),l[i]? =some K->∃b,r[i]? =some b/\f K=some b:=by
 intro l
 induction l with
 |nil=>intro r a;simp[Bn]at a;subst a;simp
 |cons K l ak=>
  intro r a
  simp only[Bn]at a
  cases ch:f K with
  |none=>simp[ch]at a
  |some b=>
   simp only[ch]at a
   cases Z:Bn f l with
   |none=>simp[Z]at a
   |some gO=>
    simp only[Z,Zf]at a
    subst a
    obtain⟨Q,U⟩:=ak _ Z
    refine⟨by simp[Q],λi x ah=> ?_⟩
    cases i with
    |zero=>simp at ah;subst ah;exact⟨b,Zs,ch⟩
    |succ i=>simp at ah;obtain⟨e,H,ar5⟩:=U i x ah;exact⟨e,by simpa using H,ar5⟩
def auH(R:c6)(af:Nat->Prop):∀(n:Nat) (v:Value) (K:F),Bu n v=some K->v=aQ R K/\cj af K:=by
 intro n
 induction n with
 |zero=>intro v K a;simp[Bu]at a
 |succ n ak=>
  have list:∀(l:List Value) (r:List F),Bn (Bu n) l=some r->l=bY R r/\es af r:=by
   intro l r a
   obtain⟨Q,U⟩:=atU _ l r a
   constructor
   ·rw[pt]
    apply Ys
    intro i
    rw[Zx]
    cases ah:l[i]? with
    |none=>
     have:l.length<=i:=by simpa using ah
     rw[ZG Zo];rfl
    |some x=>
     obtain⟨b,aj,jI⟩:=U i x ah
     rw[aj,(ak _ _ jI).1];rfl
   ·rw[uk]
    intro v bB
    obtain⟨i,aJ⟩:=Z1.1 bB
    have c1:i<l.length:=by
     have:=(Zb.1 aJ).1;omega
    obtain⟨b,aj,jI⟩:=U i l[i] (Ze c1)
    rw[aJ]at aj;simp at aj;subst aj
    exact(ak _ _ jI).2
  intro v K a
  unfold Bu at a
  split at a<;>(try(simp at a;subst a;simp[aQ,cj,mM,bY,Lr,es];done))
  ·simp at a;subst a
   refine⟨by simp only[aQ];rw[O9], ?_⟩
   simp only[cj]
   intro x ah
   obtain⟨e,_,rfl⟩:=ZT.1 ah
   exact e.toNat_lt
  ·rename_i t v
   split at a
   ·rename_i fN aE
    simp at a;subst a
    obtain⟨J,g⟩:=ak _ _ aE
    exact⟨by simp only[aQ,J],g⟩
   ·simp at a
  ·rename_i cs
   split at a
   ·rename_i l aC
    simp at a;subst a
    obtain⟨J,g⟩:=list _ _ aC
    exact⟨by simp only[aQ];rw[<-J],g⟩
   ·simp at a
  ·rename_i cs
   split at a
   ·rename_i l aC
    simp at a;subst a
    obtain⟨J,g⟩:=list _ _ aC
    exact⟨by simp only[aQ];rw[<-J],g⟩
   ·simp at a
  ·simp at a
def Np{v:Value}{K:F}(a:DD v=some K):v=aQ R K/\cj af K:=auH R af _ _ _ a
def qR(b Y i:Nat):(⟨b,Y,none⟩:Addr).add i=⟨b,Y+i,none⟩:=by unfold Addr.add;split<;>simp_all
def ak3(Z:dl C R af h j bj w){b:Nat}(aj:af b){c:V F}(a:cellsOf C h b=some c):
 ∃co ty bS aJ,w.heap[(R b).cE]? =some (.cells co ty (bS,aJ))/\∀i v,c.get i=some v->co[(R b).eb+i]? =some (aQ R v)/\cj af v:=by
 unfold cellsOf at a
 split at a
 ·rename_i f0 n st bl
  simp at a;subst a
  obtain⟨co,ty,bS,aJ,Q,_,_,aK⟩:=Z.obj b _ bl aj
  exact⟨co,ty,bS,aJ,Q,aK⟩
 ·simp at a
def WU(Z:dl C R af h j bj w){b:Nat}(aj:af b){c:V F}(a:cellsOf C h b=some c){Y:Nat}{v:F}(b5:c.get Y=some v):
 w.cell? ⟨(R b).cE,(R b).eb+Y,none⟩=some (aQ R v)/\cj af v:=by
 obtain⟨co,ty,bS,aJ,Q,aK⟩:=ak3 Z aj a
 obtain⟨bH,cu⟩:=aK Y v b5
 exact⟨by simp[World.cell?,Q,bH],cu⟩
def KN(Z:dl C R af h j bj w){b:Nat}(aj:af b){c:V F}(a:cellsOf C h b=some c){Y n:Nat}{l:List F}(b5:c.km Y n=some l):
 (loadCells ⟨(R b).cE,(R b).eb+Y,none⟩ n).run C.P w= .ok (bY R l).toArray w/\es af l:=by
 obtain⟨Q,U⟩:=V.P8 _ _ _ _ b5
 have key:∀i v,l[i]? =some v->w.cell? ⟨(R b).cE,(R b).eb+Y+i,none⟩=some (aQ R v)/\cj af v:=by
  intro i v aJ
  have c1:i<n:=zt (Zb.1 aJ).1
  have:=WU Z aj a (Y:=Y+i) (v:=v) (by rw[U i c1,aJ])
  rwa[<-ZJ]at this
 constructor
 ·have aC:=run_loadCells_list (P:=C.P) w ⟨(R b).cE,(R b).eb+Y,none⟩ (bY R l) (λaa v bB=>by
   rw[qR]
   rw[pt,Zx]at bB
   cases ah:l[aa]? with
   |none=>simp[ah]at bB
   |some K=>simp[ah]at bB;subst bB;exact(key aa K ah).1)
  have fD:(bY R l).length=n:=by rw[pt,Zn,Q]
  rw[fD]at aC
  exact aC
 ·rw[uk]
  intro v bB
  obtain⟨i,aJ⟩:=Z1.1 bB
  exact(key i v aJ).2
def axK{t n:Nat}(a:jb C t=some n):∃i,C.P.info? t=some i/\i.size=n:=by
 unfold jb at a
 cases aJ:C.P.info? t with
 |none=>simp[aJ]at a
 |some i=>simp[aJ]at a;exact⟨i,rfl,a⟩
def o6{t n:Nat}(a:jb C t=some n)(w:World):(sizeOf t).run C.P w= .ok n w:=by
 obtain⟨i,aJ,rfl⟩:=axK a
 simp[sizeOf,typeInfo,aJ]
def DQ{t:Nat}{bt:F}(a:sL C t=some bt)(R:c6)(af:Nat->Prop)(w:World):(zeroValue t).run C.P w= .ok (aQ R bt) w/\cj af bt:=by
 unfold sL at a
 cases aJ:C.P.info? t with
 |none=>simp[aJ]at a
 |some i=>
  simp only[aJ]at a
  cases cv:i.zero with
  |none=>simp[cv]at a
  |some v=>
   simp only[cv]at a
   obtain⟨J,g⟩:=Np (R:=R) (af:=af) a
   exact⟨by simp[zeroValue,typeInfo,aJ,cv,J],g⟩
def NP{t:Nat}{b:Bool}(a:De C t=some b)(w:World):(isAgg t).run C.P w= .ok b w:=by
 unfold De at a
 cases be:C.P.underlying t with
 |none=>simp[be]at a
 |some d=>
  simp only[be]at a
  cases d<;>simp at a<;>subst a<;>simp[isAgg,run_underlying be]
end
end Go.bi

namespace Go.bi
open Go.RowKit (Below)
section
variable{C:aZ}{R:c6}{af:Nat->Prop}{h:V an}{j bj:Nat}{w:World}
def na{eh:List (Nat×Nat)}{x:Operand}{sY:ka}(a:mB eh x=some sY)(aw:List (Nat×F))(M:V F):kK sY aw M=iX eh aw M x:=by
 cases x with
 |tmp t=>
  simp only[mB]at a
  cases aE:ep eh t with
  |none=>simp[aE]at a;subst a;simp[kK,iX,aE]
  |some aa=>simp[aE]at a;subst a;simp[kK,iX,aE]
 |const v=>
  simp only[mB]at a
  cases bB:DD v with
  |none=>simp[bB]at a
  |some K=>simp[bB]at a;subst a;simp[kK,iX,bB]
 |global g=>simp[mB]at a;subst a;rfl
 |func f=>simp[mB]at a;subst a;rfl
def amx{eh:List (Nat×Nat)}(aw:List (Nat×F))(M:V F):∀{l:List Operand}{cs:List ka}{bo:List F},GP eh l=some cs->Ay aw M cs=some bo->
 bo.length=l.length/\∀(i:Nat) x,l[i]? =some x->∃v,bo[i]? =some v/\iX eh aw M x=some v:=by
 intro l
 induction l with
 |nil=>intro cs bo Q U;simp[GP]at Q;subst Q;simp[Ay]at U;subst U;simp
 |cons x l ak=>
  intro cs bo Q U
  simp only[GP]at Q
  cases ah:mB eh x with
  |none=>simp[ah]at Q
  |some sY=>
   cases aC:GP eh l with
   |none=>simp[ah,aC]at Q
   |some rP=>
    simp[ah,aC]at Q;subst Q
    simp only[Ay]at U
    cases bB:kK sY aw M with
    |none=>simp[bB]at U
    |some v=>
     cases Z:Ay aw M rP with
     |none=>simp[bB,Z]at U
     |some r=>
      simp[bB,Z]at U;subst U
      obtain⟨K,b⟩:=ak aC Z
      refine⟨by simp[K],λi e H=> ?_⟩
      cases i with
      |zero=>simp at H;subst H;exact⟨v,Zs,by rw[<-na ah];exact bB⟩
      |succ i=>simp at H;simpa using b i e H
def amv{ay:Operand->Option F}:∀{l:List Operand}{bo:List F},px ay l=some bo->
 bo.length=l.length/\∀(i:Nat) x,l[i]? =some x->∃v,bo[i]? =some v/\ay x=some v:=by
 intro l
 induction l with
 |nil=>intro bo a;simp[px]at a;subst a;simp
 |cons x l ak=>
  intro bo a
  simp only[px]at a
  cases ah:ay x with
  |none=>simp[ah]at a
  |some v=>
   cases aC:px ay l with
   |none=>simp[ah,aC]at a
   |some r=>
    simp[ah,aC]at a;subst a
    obtain⟨K,b⟩:=ak aC
    refine⟨by simp[K],λi e H=> ?_⟩
    cases i with
    |zero=>simp at H;subst H;exact⟨v,Zs,ah⟩
    |succ i=>simp at H;simpa using b i e H
def adh{ay:Operand->Value}{eA:Operand->Option F}{l:List Operand}{bo:List F}(cA:jd R af ay eA l)(Q:bo.length=l.length)
 (U:∀(i:Nat) x,l[i]? =some x->∃v,bo[i]? =some v/\eA x=some v):l.map ay=bY R bo/\es af bo:=by
 constructor
 ·rw[pt]
  apply Ys
  intro i
  rw[Zx,Zx]
  cases ah:l[i]? with
  |none=>
   have:l.length<=i:=by simpa using ah
   rw[ZG Zo];rfl
  |some x=>
   obtain⟨v,bB,bx⟩:=U i x ah
   rw[bB]
   simp[(cA x (Zl ah) v bx).1]
 ·rw[uk]
  intro v bB
  obtain⟨i,aJ⟩:=Z1.1 bB
  have c1:i<l.length:=zt (Zb.1 aJ).1
  obtain⟨ae,be,bx⟩:=U i l[i] (Ze c1)
  rw[aJ]at be;simp at be;subst be
  exact(cA _ (List.getElem_mem c1) v bx).2
def wb{ay:Operand->Value}{eA:Operand->Option F}{K:Array Operand}{bo:List F}(cA:jd R af ay eA K.toList)(a:px eA K.toList=some bo):
 K.map ay=(bY R bo).toArray/\es af bo:=by
 obtain⟨Q,U⟩:=amv a
 obtain⟨ar,aK⟩:=adh cA Q U
 refine⟨?_,aK⟩
 apply YZ
 simp[ar]
def afs(B:IntKind)(n:Int):pg B n=B.wrap n:=by
 cases B<;>simp only[pg]<;>try rfl
 simp only[fw,IntKind.wrap,IntKind.bits,IntKind.signed,Zh,Bool.true_and,ge_iff_le]
 have bD:((2:Int)^64)=18446744073709551616:=by decide
 have cF:((2:Int)^(64-1))=9223372036854775808:=by decide
 rw[bD,cF]
 by_cases a:n%18446744073709551616<9223372036854775808
 ·rw[Zq a,Zg (by simpa using a)]
 ·rw[Zg a,Zq (by simpa using a)]
@[simp] def aAZ(B:IntKind)(n:Int):kT B n=some (.int B (B.wrap n)):=by simp[kT,afs]
@[simp] def acv(B:IntKind)(n:Int):n0 B n=some (.int B n):=by simp[n0]
@[simp] def wd(b:Bool):ox b=some (.bool b):=by cases b<;>rfl
@[simp] def EJ{α:Type _}(c:Bool)(K:Option α)(v:α):bP c none K=some v↔c=false/\K=some v:=by cases c<;>simp
@[simp] def FO(x e:Int):w5 x e=decide (x=e):=by
  rw[Yg,Zh]
  cases x<;>cases e
  ·exact⟨λa=>by rw[Zj a],λa=>by cases a;exact zb _⟩
  ·exact⟨(λa=>by cases a),(λa=>by cases a)⟩
  ·exact⟨(λa=>by cases a),(λa=>by cases a)⟩
  ·exact⟨λa=>by rw[Zj a],λa=>by cases a;exact zb _⟩
@[simp] def tr(x e:Int):yH x e=decide (x<e):=by
  rw[Yg,Zh]
  cases x with
  |ofNat K=>cases e with
   |ofNat b=>show Nat.blt K b=true↔(K:Int)<(b:Int);simp[Nat.blt];omega
   |negSucc b=>show false=true↔(K:Int)<Int.negSucc b;simp;omega
  |negSucc K=>cases e with
   |ofNat b=>show true=true↔Int.negSucc K<(b:Int);simp;omega
   |negSucc b=>show Nat.blt b K=true↔Int.negSucc K<Int.negSucc b;simp[Nat.blt];omega
@[simp] def acK(B e4:IntKind):lY B e4=decide (B=e4):=by cases B<;>cases e4<;>rfl
@[simp] def akN(K b:Bool):EB K b=(K==b):=by cases K<;>cases b<;>rfl
def ajY{op:BinOp}{B:IntKind}{x e:Int}{v:F}(t:TypeId)(a:lo op B x e=some v)(aD:lG op=false):
 (binOp op t (.int B x) (.int B e)).run C.P w= .ok (aQ R v) w/\cj af v:=by
 cases op<;>simp[lo,lG,binOp,Op.intArith,Op.intDiv,Op.intBits,Op.intCmp]at a aD ⊢ <;>
  first
  |(subst a;simp[aQ,cj];done)
  |(obtain⟨Q,a⟩:=a;subst a;simp[aQ,cj,Q];done)
  |(subst a;exact⟨rfl,trivial⟩)
  |(subst a;refine⟨?_,trivial⟩;simp only[aQ];congr 1;rw[Yg];simp;done)
def aj5{op:BinOp}{B e4:IntKind}{x e:Int}{v:F}(t:TypeId)(a:Hd op B x e=some v):
 (binOp op t (.int B x) (.int e4 e)).run C.P w= .ok (aQ R v) w/\cj af v:=by
 unfold Hd at a
 simp only[tr,EJ,Zc]at a
 obtain⟨Q,a⟩:=a
 cases op<;>simp[binOp,Op.shift,Q]at a ⊢
 all_goals(subst a;simp[aQ,cj])
def Wi{op:BinOp}{x e v:F}(t:TypeId)(a:aF op x e=some v):
 (binOp op t (aQ R x) (aQ R e)).run C.P w= .ok (aQ R v) w/\cj af v/\∃B K e4 b,x= .int B K/\e= .int e4 b:=by
 unfold aF at a
 split at a
 ·rename_i B K e4 b
  simp only[aQ]
  by_cases aD:lG op=true
  ·simp only[aD,eP]at a
   obtain⟨bD,cF⟩:=aj5 (C:=C) (R:=R) (af:=af) (w:=w) (e4:=e4) t a
   exact⟨bD,cF,_,_,_,_,rfl,rfl⟩
  ·have aD:lG op=false:=by simpa using aD
   simp only[aD,jF,acK,e0,Zh]at a
   obtain⟨rfl,a⟩:=a
   obtain⟨bD,cF⟩:=ajY (C:=C) (R:=R) (af:=af) (w:=w) t a aD
   exact⟨bD,cF,_,_,_,_,rfl,rfl⟩
 ·simp at a
def Kn(R:c6)(af:Nat->Prop)(P:Program)(w:World)(s:Sem Next)(v:F):Prop:=s.run P w= .ok (.value (aQ R v)) w/\cj af v
def nJ{P:Program}{s:Sem Value}{v:F}(a:s.run P w= .ok (aQ R v) w/\cj af v):Kn R af P w (do pure (.value (<-s))) v:=by
 refine⟨?_,a.2⟩
 simp[a.1]
def Wk(Z:dl C R af h j bj w){t:TypeId}(bc:De C t=some false){K v:F}(aE:cj af K)(a:ao C h K=some v):
 (Instr.loadAt t (aQ R K)).run C.P w= .ok (aQ R v) w/\cj af v:=by
 unfold ao at a
 split at a
 ·rename_i b Y
  split at a
  ·rename_i c aB
   obtain⟨Q,U⟩:=WU Z aE aB a
   refine⟨?_,U⟩
   simp[Instr.loadAt,Instr.sureAddr,aQ,loadVar,NP bc,Q]
  ·simp at a
 ·simp at a
def Wl(Z:dl C R af h j bj w){t:TypeId}{n:Nat}(bc:De C t=some true)(aD:jb C t=some n){K v:F}(aE:cj af K)(a:cg C h n K=some v):
 (Instr.loadAt t (aQ R K)).run C.P w= .ok (aQ R v) w/\cj af v:=by
 unfold cg at a
 split at a
 ·rename_i b Y
  split at a
  ·rename_i c aB
   split at a
   ·rename_i l aC
    simp at a;subst a
    obtain⟨Q,U⟩:=KN Z aE aB aC
    refine⟨?_,U⟩
    simp[Instr.loadAt,Instr.sureAddr,aQ,loadVar,NP bc,o6 aD,Q]
   ·simp at a
  ·simp at a
 ·simp at a
def Wm(Z:dl C R af h j bj w){t:TypeId}{K v:F}(aE:cj af K)(a:lp C h t K=some v):
 (Instr.loadAt t (aQ R K)).run C.P w= .ok (aQ R v) w/\cj af v:=by
 unfold lp at a
 split at a
 ·rename_i s Q U;exact Wl Z Q U aE a
 ·rename_i Q;exact Wk Z Q aE a
 ·simp at a
def k4{K b:Nat}(a:Nat.blt K b=true):K<b:=by simp[Nat.blt]at a;omega
def jf{K b:Nat}(a:Nat.ble K b=true):K<=b:=by simpa using a
def Dt{v:F}{n:Nat}(a:mU v=some n):∃B,v= .int B (Int.ofNat n):=by
 unfold mU at a
 split at a
 ·rename_i B bt
  split at a
  ·simp at a;subst a;exact⟨B,rfl⟩
  ·simp at a
 ·simp at a
def amD{s:TypeId}{jH:Array Field}{f bt:Nat}{rS:Field}(be:C.P.underlying s=some (.struct jH))(ch:jH.toList[f]? =some rS)
 (cv:jb C rS.type=some bt)(k9:bt≠0){K v:F}(aE:cj af K)(a:ba rS.offset K=some v):
 (Instr.fieldAt s (aQ R K) f).run C.P w= .ok (aQ R v) w/\cj af v:=by
 unfold ba at a
 split at a
 ·rename_i b Y
  simp at a;subst a
  have qj:jH[f]? =some rS:=by rw[<-ch];simp
  refine⟨?_,aE⟩
  simp[Instr.fieldAt,run_underlying be,qj,Instr.sureAddr,aQ,fieldPlace,o6 cv,k9,qR,ZJ]
 ·simp at a
def asq{t:TypeId}{n a1 i:Nat}{ee:TypeId}(be:C.P.underlying t=some (.array n ee))(cv:jb C ee=some a1)
 {K v:F}{B:IntKind}(aE:cj af K)(a:Kj n a1 K i=some v):
 (Instr.indexAt t (aQ R K) (.int B (Int.ofNat i))).run C.P w= .ok (aQ R v) w/\cj af v:=by
 unfold Kj at a
 split at a
 ·rename_i b Y
  simp only[e0,Zf]at a
  obtain⟨Q,rfl⟩:=a
  have c1:i<n:=k4 Q
  refine⟨?_,aE⟩
  simp[Instr.indexAt,asIntOf,run_underlying be,Instr.sureAddr,aQ,o6 cv,c1,qR,ZJ]
 ·simp at a
def ast{t:TypeId}{a1 i:Nat}{ee:TypeId}(be:C.P.underlying t=some (.slice ee))(cv:jb C ee=some a1)
 {K v:F}{B:IntKind}(aE:cj af K)(a:BP a1 K i=some v):
 (Instr.indexAt t (aQ R K) (.int B (Int.ofNat i))).run C.P w= .ok (aQ R v) w/\cj af v:=by
 unfold BP at a
 split at a
 ·rename_i b Y n _
  simp only[e0,Zf]at a
  obtain⟨Q,rfl⟩:=a
  have c1:i<n:=k4 Q
  refine⟨?_,aE⟩
  simp[Instr.indexAt,asIntOf,run_underlying be,aQ,o6 cv,c1,qR,ZJ]
 ·rename_i b Y n _
  simp only[e0,Zf]at a
  obtain⟨Q,rfl⟩:=a
  have c1:i<n:=k4 Q
  refine⟨?_,aE⟩
  simp[Instr.indexAt,asIntOf,run_underlying be,aQ,o6 cv,c1,qR,ZJ]
 ·simp at a
def ayM{K v:F}(aE:cj af K)(a:cm K=some v):v=K/\(∀oper:Oper,∀ay:Operand->Value,∀x,oper.op= .nilCheck x->ay x=aQ R K->(execOp ay oper).run C.P w= .ok (.value (aQ R v)) w):=by
 unfold cm at a
 split at a
 ·simp at a;subst a
  refine⟨rfl,λoper ay x bl ah=> ?_⟩
  simp[execOp,bl,ah,aQ]
 ·split at a
  ·simp at a;subst a
   refine⟨rfl,λoper ay x bl ah=> ?_⟩
   simp[execOp,bl,ah,aQ,mM]
  ·simp at a;subst a
   refine⟨rfl,λoper ay x bl ah=> ?_⟩
   simp[execOp,bl,ah,aQ,mM]
  ·simp at a
 ·simp at a;subst a
  refine⟨rfl,λoper ay x bl ah=> ?_⟩
  simp[execOp,bl,ah,aQ]
 ·simp at a
def ayL{i:Nat}{K v:F}(aE:cj af K)(a:cM i K=some v):(Instr.extract (aQ R K) i).run C.P w= .ok (aQ R v) w/\cj af v:=by
 unfold cM at a
 split at a
 ·rename_i bo
  rw[pL]at a
  refine⟨?_,(uk af bo).1 aE v (Zl a)⟩
  simp[Instr.extract,aQ,pt,a]
 ·simp at a
def XE{ay:Operand->Value}{eA:Operand->Option F}:∀{l:List (Nat×Operand)}{dq:List (Nat×F)},jd R af ay eA (l.map (·.2))->x2 eA l=some dq->
 l.map (λx=>(x.1,ay x.2))=dq.map (λx=>(x.1,aQ R x.2))/\∀x∈dq,cj af x.2:=by
 intro l
 induction l with
 |nil=>intro dq _ a;simp[x2]at a;subst a;simp
 |cons K l ak=>
  intro dq cA a
  obtain⟨i,x⟩:=K
  simp only[x2]at a
  cases ah:eA x with
  |none=>simp[ah]at a
  |some v=>
   cases aC:x2 eA l with
   |none=>simp[ah,aC]at a
   |some r=>
    simp[ah,aC]at a;subst a
    obtain⟨K,b⟩:=ak (λe H=>cA e (by simp at H ⊢;exact .inr H)) aC
    obtain⟨c,d⟩:=cA x Zs v ah
    refine⟨by simp[K,c],λe H=> ?_⟩
    cases H with
    |head=>exact d
    |tail _ H=>exact b e H
def t2(R:c6)(v:F):(aQ R v).cells=(bY R v.cells).toArray:=by
 cases v<;>simp[aQ,Value.cells,F.cells,bY]
def t6{v:F}(a:cj af v):es af v.cells:=by
 cases v with
 |agg cs=>exact a
 |_=>exact⟨a,trivial⟩
def amR(R:c6):∀(bo:List F) (cs:List F) (off B:Nat),
 ((bY R bo).zipIdx B).foldl (λ(cs:Array Value) (x:Value×Nat)=>cs.setIfInBounds (off+x.2) x.1) (bY R cs).toArray=(bY R (li cs (off+B) bo)).toArray:=by
 intro bo
 induction bo with
 |nil=>intro cs off B;rfl
 |cons v bo ak=>
  intro cs off B
  simp only[bY,List.zipIdx_cons,Yo,li]
  have:(bY R cs).toArray.setIfInBounds (off+B) (aQ R v)=(bY R (cs.set (off+B) v)).toArray:=by
   apply YZ
   simp[pt,List.map_set]
  rw[this,ak]
  rfl
def anK{cs:List F}{i:Nat}{v:F}(a:es af cs)(bB:cj af v):es af (cs.set i v):=by
 rw[uk]at a ⊢
 intro x ah
 rcases YQ ah with cy|cy
 ·exact a x cy
 ·rw[cy];exact bB
def anL:∀(bo cs:List F) (Y:Nat),es af cs->es af bo->es af (li cs Y bo):=by
 intro bo
 induction bo with
 |nil=>intro cs Y a _;exact a
 |cons v bo ak=>intro cs Y a bB;exact ak _ _ (anK a bB.1) bB.2
def PM{Gt JI:Nat->Option (Nat×Nat)}(az:∀i x,Gt i=some x->JI i=some x):∀(dq:List (Nat×F)) (cs r:List F),es af cs->(∀x∈dq,cj af x.2)->
 AA Gt cs dq=some r->Instr.fill JI (bY R cs).toArray (dq.map λx=>(x.1,aQ R x.2))=some (bY R r).toArray/\es af r:=by
 intro dq
 induction dq with
 |nil=>intro cs r a _ ch;simp[AA]at ch;subst ch;exact⟨rfl,a⟩
 |cons p dq ak=>
  intro cs r a b5 ch
  obtain⟨i,v⟩:=p
  simp only[AA]at ch
  cases sa:Gt i with
  |none=>simp[sa]at ch
  |some x=>
   obtain⟨off,size⟩:=x
   simp only[sa,e0,Zp]at ch
   obtain⟨⟨Q,U⟩,ch⟩:=ch
   have Q:v.cells.length=size:=Zj Q
   have U:off+size<=cs.length:=jf U
   have apY:cj af v:=b5 (i,v) Zs
   obtain⟨K,b⟩:=ak (li cs off v.cells) r (anL _ _ _ a (t6 apY)) (λx ah=>b5 x (by simp[ah])) ch
   refine⟨?_,b⟩
   simp only[ZK,Instr.fill,az _ _ sa,t2]
   have fD:(bY R v.cells).length=size:=by rw[pt,Zn,Q]
   have uG:(bY R cs).length=cs.length:=by rw[pt,Zn]
   rw[Zg]
   ·rw[<-K]
    congr 1
    have:=amR R v.cells cs off 0
    simp
    simpa using this
   ·simp[fD,uG];omega
def awz{α eO:Type}(P:Program)(w:World)(f:α->Sem eO)(g:α->eO):∀(l:List α),(∀K∈l,(f K).run P w= .ok (g K) w)->(l.mapM f).run P w= .ok (l.map g) w:=by
 intro l
 induction l with
 |nil=>intro _;simp
 |cons K l ak=>intro a;simp[Y7,a K Zs,ak (λb aj=>a b (by simp[aj]))]
def axI{jH:List Field}{i:Nat}{x:Nat×Nat}(a:TC C jH i=some x):∃f s,jH[i]? =some f/\jb C f.type=some s/\x=(f.offset,s):=by
 unfold TC at a
 rw[pL]at a
 split at a
 ·rename_i f ch
  split at a
  ·rename_i s aD
   simp at a
   exact⟨f,s,ch,aD,a.symm⟩
  ·simp at a
 ·simp at a
def Hc{t:TypeId}{cs:List F}{off:Nat}{v:F}(b5:es af cs)(a:B6 C t cs off=some v):
 (part t (bY R cs).toArray off).run C.P w= .ok (aQ R v) w/\cj af v:=by
 unfold B6 at a
 split at a
 ·rename_i s Q U
  simp at a;subst a
  constructor
  ·simp only[part,Sem.run_bind,NP Q,Result.andThen_ok,ZD,o6 U,Sem.run_pure,aQ,pt]
   congr 2
   apply YZ
   simp[List.map_take,List.map_drop,List.take_drop]
  ·simp only[cj]
   rw[uk]at b5 ⊢
   exact λx ah=>b5 x (Y8 (Y9 ah))
 ·rename_i Q
  rw[pL]at a
  constructor
  ·simp[part,NP Q,pt,a]
  ·exact(uk af cs).1 b5 v (Zl a)
 ·simp at a
def ajX{t:TypeId}{x i v:F}(ah:cj af x)(a:KB C t x i=some v):(Instr.index t (aQ R x) (aQ R i)).run C.P w= .ok (aQ R v) w/\cj af v:=by
 unfold KB at a
 split at a
 ·simp at a
 ·rename_i n aL
  obtain⟨B,rfl⟩:=Dt aL
  split at a
  ·rename_i m ee cs be
   split at a
   ·rename_i a1 cv
    simp only[e0]at a
    obtain⟨Q,U⟩:=a
    have c1:=k4 Q
    obtain⟨ar,aK⟩:=Hc (R:=R) (w:=w) ah U
    refine⟨?_,aK⟩
    simp[Instr.index,asIntOf,aQ,run_underlying be,c1,o6 cv,ar]
   ·simp at a
  ·rename_i s be
   rw[pL]at a
   split at a
   ·rename_i c aB
    simp at a;subst a
    refine⟨?_,trivial⟩
    have aj:(fX s)[n]? =some (UInt8.ofNat c):=by
     show(fX s).data[n]? =_
     simp[fX,aB]
    have c1:c<256:=ah c (Zl aB)
    simp[Instr.index,asIntOf,aQ,run_underlying be,aj,YI c1]
   ·simp at a
  ·simp at a
def aj9{op:UnOp}{x v:F}(a:fG op x=some v):(Op.unary op (aQ R x)).run C.P w= .ok (aQ R v) w/\cj af v:=by
 unfold fG at a
 split at a
 ·rename_i B n
  simp[lo]at a;subst a
  exact⟨by simp[Op.unary,Op.intArith,aQ],trivial⟩
 ·rename_i B n
  simp[lo]at a;subst a
  exact⟨rfl,trivial⟩
 ·simp at a;subst a;exact⟨rfl,trivial⟩
 ·simp at a
def auJ:∀{l:List Field},Nq C l=true->∀f∈l,∃s,jb C f.type=some s:=by
 intro l
 induction l with
 |nil=>intro _ f ch;simp at ch
 |cons K l ak=>
  intro a f ch
  simp only[Nq,Zp]at a
  cases ch with
  |head=>cases aD:jb C K.type with
   |none=>simp[aD]at a
   |some s=>exact⟨s,rfl⟩
  |tail _ ch=>exact ak a.2 f ch
def ajR{t:TypeId}{dq:List (Nat×F)}{v:F}(b5:∀x∈dq,cj af x.2)(a:Ky C t dq=some v):
 (Instr.build t ((dq.map λx=>(x.1,aQ R x.2)).toArray)).run C.P w= .ok (aQ R v) w/\cj af v:=by
 unfold Ky at a
 split at a
 ·simp at a
 ·rename_i bt cv
  obtain⟨FK,FL⟩:=DQ cv R af w
  split at a
  ·rename_i jH be
   simp only[e0]at a
   obtain⟨fS,a⟩:=a
   split at a
   ·rename_i cs hT
    simp at a;subst a
    have bp:(jH.mapM λf=>do pure (f.offset, <-sizeOf f.type):Sem (Array (Nat×Nat))).run C.P w= .ok (jH.toList.map λf=>(f.offset,(jb C f.type).getD 0)).toArray w:=by
     rw[Array.mapM_eq_mapM_toList,Sem.run_map,awz C.P w _ (λf:Field=>(f.offset,(jb C f.type).getD 0)) _ (λf ch=>by
      obtain⟨s,aD⟩:=auJ fS f ch
      simp[o6 aD,aD])]
     rfl
    obtain⟨K,b⟩:=PM (R:=R) (JI:=λi=>((jH.toList.map λf=>(f.offset,(jb C f.type).getD 0)).toArray)[i]?) (λi x ah=>by
     obtain⟨f,s,Q,U,rfl⟩:=axI ah
     simp at Q
     simp[Q,U]) dq bt.cells cs (t6 FL) b5 hT
    refine⟨?_,b⟩
    simp only[Instr.build,Sem.run_bind,FK,Result.andThen_ok,run_underlying be,bp,t2,K,aQ,Sem.run_pure]
   ·simp at a
  ·rename_i n ee be
   split at a
   ·rename_i s aD
    split at a
    ·rename_i cs hT
     simp at a;subst a
     obtain⟨K,b⟩:=PM (R:=R) (JI:=λi=>some (i*s,s)) (λ_ _ a=>a) dq bt.cells cs (t6 FL) b5 hT
     refine⟨?_,b⟩
     simp[Instr.build,FK,run_underlying be,o6 aD,t2,K,aQ]
    ·simp at a
   ·simp at a
  ·simp at a
end
end Go.bi

namespace Go.bi
open Go.RowKit (Below)
section
variable{C:aZ}{R:c6}{af:Nat->Prop}{h:V an}{j bj:Nat}{w:World}
def adF{K b:Nat}(aE:K<256)(aj:b<256)(a:UInt8.ofNat K=UInt8.ofNat b):K=b:=by
 have:=congrArg UInt8.toNat a
 simp at this
 omega
def Jy:∀(x e:List Nat),mx x e=true↔x=e
 |[],[]=>by simp[mx]
 |[],_::_=>by simp[mx]
 |_::_,[]=>by simp[mx]
 |K::x,b::e=>by
  simp only[mx,Zp,Jy x e,Yw]
  exact⟨λ⟨a,J⟩=>⟨Zj a,J⟩,λ⟨a,J⟩=>⟨by rw[a];exact zb _,J⟩⟩
def atS:∀{x e:List Nat},(∀K∈x,K<256)->(∀K∈e,K<256)->x.map UInt8.ofNat=e.map UInt8.ofNat->x=e:=by
 intro x
 induction x with
 |nil=>intro e _ _ a;cases e with
  |nil=>rfl
  |cons b e=>simp at a
 |cons K x ak=>
  intro e ah H a
  cases e with
  |nil=>simp at a
  |cons b e=>
   simp only[ZK,Yw]at a
   rw[adF (ah K Zs) (H b Zs) a.1,ak (λc aB=>ah c (by simp[aB])) (λc aB=>H c (by simp[aB])) a.2]
def KJ(s:List Nat):(fX s).toList=s.map UInt8.ofNat:=by
 rw[ByteArray.toList_eq];simp[fX]
def TB{x e:List Nat}(ah:∀K∈x,K<256)(H:∀K∈e,K<256):((fX x).toList==(fX e).toList)=mx x e:=by
 rw[Yg,Jy,Y0,KJ,KJ]
 exact⟨atS ah H,λa=>by rw[a]⟩
def aeP:∀{x e:List Nat},(∀K∈x,K<256)->(∀K∈e,K<256)->Op.bytesLess (x.map UInt8.ofNat) (e.map UInt8.ofNat)=Bq x e
 |[],[],_,_=>rfl
 |[],_::_,_,_=>rfl
 |_::_,[],_,_=>rfl
 |K::x,b::e,ah,H=>by
  have aE:=ah K Zs
  have aj:=H b Zs
  have ak:=aeP (λc aB=>ah c (Zr _ aB)) (λc aB=>H c (Zr _ aB))
  simp only[ZK,Op.bytesLess,Bq,ak]
  have bD:decide (UInt8.ofNat K<UInt8.ofNat b)=Nat.blt K b:=by
   rw[Yg,Zh,UInt8.lt_iff_toNat_lt]
   simp[Nat.blt,YI aE,YI aj];omega
  have cF:(UInt8.ofNat K==UInt8.ofNat b)=Nat.beq K b:=by
   rw[Yg,Y0]
   exact⟨λa=>by rw[adF aE aj a];exact zb _,λa=>by rw[Zj a]⟩
  rw[bD,cF]
def NG(Z:dl C R af h j bj w){b Y:Nat}(aj:af b)(a:Bk C h b Y=true):
 ∃c n st co ty bS aJ,ab C h b=some (.cells c n st)/\Y<n/\w.heap[(R b).cE]? =some (.cells co ty (bS,aJ))/\Ej st n (R b) co.size bS aJ/\(R b).eb+n<=co.size/\st≠ .jR:=by
 unfold Bk at a
 split at a
 ·simp at a
 ·rename_i c n st kS bl
  obtain⟨co,ty,bS,aJ,Q,U,ar,_⟩:=Z.obj b _ bl aj
  exact⟨c,n,st,co,ty,bS,aJ,bl,k4 (by simpa using a),Q,U,ar,λJ=>(by subst J;first|exact kS _ bl|exact kS _ rfl|exact kS rfl|exact kS bl|simp_all)⟩
 ·simp at a
def adQ{b Y:Nat}(a:Gr C h b Y=true):Bk C h b Y=true/\C.a8<=b/\∃c n,ab C h b=some (.cells c n .own):=by
 unfold Gr at a
 unfold Bk
 split at a
 ·rename_i c n bl
  simp only[bl,Zp]at a ⊢
  exact⟨a.2,jf a.1,c,n,rfl⟩
 ·simp at a
def Th{r:Nat}{co:Array Value}{ty:TypeId}{f:Nat×Nat}(a:w.heap[r]? =some (.cells co ty f)):w.shape? r=some (ty,co.size):=by
 simp[World.shape?,a]
def aex{P:Program}{p am:Nat}{x e:Nat}{bh cl:Array Value}{t1 ez:TypeId}{eg Q c5 U:Nat}(dD:p≠am)
 (bD:w.heap[p]? =some (.cells bh t1 (eg,Q)))(cF:w.heap[am]? =some (.cells cl ez (c5,U)))(eM:Q<=eg)(jc:x<bh.size)(hO:e<cl.size)(eZ:U<=c5\/cl.size<=c5):
 (sameAddr ⟨p,x,none⟩ ⟨am,e,none⟩).run P w= .ok false w/\(sameAddr ⟨am,e,none⟩ ⟨p,x,none⟩).run P w= .ok false w:=by
 have b4:w.frozen? ⟨p,x,none⟩=false:=by simp[World.frozen?,bD];omega
 have b7:w.frozen? ⟨am,e,none⟩=false:=by simp[World.frozen?,cF];omega
 have cN:w.frozen? ⟨p,bh.size,none⟩=false:=by simp[World.frozen?,bD];omega
 have jQ:=Th bD
 have kA:=Th cF
 have fW:bh.size≠0:=Zo
 have fv:cl.size≠0:=Zo
 have aqw:am≠p:=λJ=>dD J.symm
 constructor
 ·simp[sameAddr,dD,b4,b7,cN,noView,viewAt,jQ,kA,mayBeOne,stringish,fv]
 ·simp[sameAddr,aqw,b4,b7,cN,noView,viewAt,jQ,kA,mayBeOne,stringish,fW,fv]
def avE(Z:dl C R af h j bj w){b Y dP o':Nat}{r:Bool}(aj:af b)(jI:af dP)(a:ptrEq C h b Y dP o'=some r):
 (sameAddr ⟨(R b).cE,(R b).eb+Y,none⟩ ⟨(R dP).cE,(R dP).eb+o',none⟩).run C.P w= .ok r w:=by
 unfold ptrEq at a
 rw[hD]at a
 split at a
 ·rename_i J
  subst J
  simp at a;subst a
  simp only[sameAddr,Yk,ZD,Sem.run_pure]
  congr 1
  rw[Yg,Y0]
  constructor
  ·intro a;simp at a;rw[a];exact zb _
  ·intro a;rw[Zj a]
 ·rename_i dD
  simp only[e0,zj,Zp,Zf]at a
  obtain⟨a,rfl⟩:=a
  rcases a with ⟨Q,U⟩|⟨Q,U⟩
  ·obtain⟨ar,aK,c,n,bH⟩:=adQ Q
   obtain⟨dt,aO,Tx,bh,t1,eg,tI,bD,jc,Oh,fW,bV,_⟩:=NG Z aj ar
   obtain⟨dG,bg,axg,cl,ez,c5,D4,cF,hO,Oi,fv,cw,SO⟩:=NG Z jI U
   have di:Tx= .own:=by rw[bH]at bD;cases bD;rfl
   subst di
   have QQ:(R b).cE≠(R dP).cE:=by
    intro J
    rcases(Z.sep b dP _ _ bD cF aj jI dD aK J).1 with ⟨_,_,_,_,am,_⟩|⟨_,_,_,_,_,am,_⟩|⟨_,_,_,_,_,_,am,_⟩<;>cases am
   exact(aex QQ Oh Oi (za fW.symm) Zo Zo (fv.free SO)).1
  ·obtain⟨ar,aK,c,n,bH⟩:=adQ Q
   obtain⟨dt,aO,Tx,bh,t1,eg,tI,bD,jc,Oh,fW,bV,_⟩:=NG Z jI ar
   obtain⟨dG,bg,axg,cl,ez,c5,D4,cF,hO,Oi,fv,cw,SO⟩:=NG Z aj U
   have di:Tx= .own:=by rw[bH]at bD;cases bD;rfl
   subst di
   have QQ:(R dP).cE≠(R b).cE:=by
    intro J
    rcases(Z.sep dP b _ _ bD cF jI aj (λam=>dD am.symm) aK J).1 with ⟨_,_,_,_,am,_⟩|⟨_,_,_,_,_,am,_⟩|⟨_,_,_,_,_,_,am,_⟩<;>cases am
   exact(aex QQ Oh Oi (za fW.symm) Zo Zo (fv.free SO)).2
def ajU{eq:Nat->F->F->Option Bool}{d:Nat}(e3:∀t x e r,cj af x->cj af e->eq t x e=some r->(Op.equalIn d t (aQ R x) (aQ R e)).run C.P w= .ok r w):
 ∀(jv:List Field) (cn nA:List F) (r:Bool),es af cn->es af nA->B5 C eq jv cn nA=some r->(Op.eqFields d (bY R cn).toArray (bY R nA).toArray jv).run C.P w= .ok r w:=by
 intro jv
 induction jv with
 |nil=>intro cn nA r _ _ a;simp[B5]at a;subst a;simp[Op.eqFields]
 |cons f jv ak=>
  intro cn nA r ah H a
  simp only[B5,EJ,beq_eq_false_iff_ne]at a
  obtain⟨aL,a⟩:=a
  split at a
  ·rename_i K b aE aj
   obtain⟨bh,cl⟩:=Hc (R:=R) (w:=w) ah aE
   obtain⟨c0,dL⟩:=Hc (R:=R) (w:=w) H aj
   split at a
   ·rename_i J
    simp only[Op.eqFields,aL,ne_eq,ZH,ZD,Sem.run_bind,bh,c0,e3 _ _ _ _ cl dL J,Result.andThen_ok,Yi,Zw,ZA]
    exact ak cn nA r ah H a
   ·rename_i J
    simp at a;subst a
    simp only[Op.eqFields,aL,ne_eq,ZH,ZD,Sem.run_bind,bh,c0,e3 _ _ _ _ cl dL J,Result.andThen_ok,Yh,Sem.run_pure]
   ·simp at a
  ·simp at a
def OS(Z:dl C R af h j bj w):∀(d k6:Nat) (t:Nat) (x e:F) (r:Bool),d<=k6->cj af x->cj af e->kl C h d t x e=some r->
 (Op.equalIn k6 t (aQ R x) (aQ R e)).run C.P w= .ok r w:=by
 intro d
 induction d with
 |zero=>intro k6 t x e r _ _ _ a;simp[kl]at a
 |succ d ak=>
  intro k6 t x e r aM fy un a
  obtain⟨k6,rfl⟩:∃J,k6=J+1:=⟨k6-1,Zo⟩
  unfold kl at a
  split at a
  ·rename_i be;simp at a;subst a;simp[Op.equalIn,run_underlying be,aQ]
  ·rename_i be;simp at a;obtain⟨rfl,rfl⟩:=a;simp[Op.equalIn,run_underlying be,aQ];rfl
  ·rename_i K b be
   simp at a;subst a
   rw[aQ,aQ,run_equalIn_string w k6 t _ _ be,TB fy un]
  ·rename_i be;simp at a;subst a;simp[Op.equalIn,run_underlying be,aQ]
  ·rename_i be;simp at a;subst a;simp[Op.equalIn,run_underlying be,aQ]
  ·rename_i be;simp at a;subst a;simp[Op.equalIn,run_underlying be,aQ]
  ·rename_i J b Y dP o' be
   split at a
   ·rename_i s aD
    rw[hD]at a
    split at a
    ·simp at a
    ·rename_i ME
     have:=avE Z fy un a
     simp[Op.equalIn,run_underlying be,aQ,o6 aD,ME,this]
   ·simp at a
  ·rename_i be;simp at a;subst a;simp[Op.equalIn,run_underlying be,aQ]
  ·rename_i be;simp at a;subst a;simp[Op.equalIn,run_underlying be,aQ]
  ·rename_i be;simp at a;subst a;simp[Op.equalIn,run_underlying be,aQ]
  ·rename_i J8 N6 ty N7 be
   rw[hD]at a
   split at a
   ·rename_i J
    subst J
    split at a
    ·rename_i i aJ
     simp only[e0]at a
     obtain⟨aB,a⟩:=a
     have:=ak k6 J8 N6 N7 r Zo fy un a
     simp[Op.equalIn,run_underlying be,aQ,typeInfo,aJ,aB,this]
    ·simp at a
   ·rename_i J
    simp at a;subst a
    simp[Op.equalIn,run_underlying be,aQ,J]
  all_goals first
   |(rename_i be;simp at a;subst a;simp[Op.equalIn,run_underlying be,aQ];done)
   |skip
  ·rename_i jH cn nA be
   simp only[EJ]at a
   obtain⟨az,a⟩:=a
   have ch:C.P.fieldsOf t=jH:=by simp[Program.fieldsOf,be]
   rw[aQ,aQ,run_equalIn_struct w k6 t _ _ (by rw[ch];exact be) az,ch]
   exact ajU (λt x e r fy un a=>ak k6 t x e r Zo fy un a) _ _ _ _ fy un a
  ·simp at a
end
end Go.bi

