/- A part of the proof of the claim's last text: what it is used for is said there; no condition of its own. -/
import GoSem.Step
import Derived.Below
import Derived.ChangeKeysEq
import Derived.Laws.IdiomCopy
import Derived.Laws.Unary
import Derived.Laws.Wrap64
import Derived.Laws.StructEq
set_option maxHeartbeats 8000000
set_option linter.all false
namespace Go
def Zo{p:Prop}(h:p:=by omega):p:=h
def Za{p q:Prop}(a:p)(b:q):p/\q:=⟨a,b⟩
def Zd{p:Prop}(h:p:=by decide):p:=h
def Zs{p:Prop}(h:p:=by simp):p:=h
def Zk{p:Prop}(h:p:=by kernel_rfl):p:=h
def Zb:type_of%@decide_eq_false_iff_not:=@decide_eq_false_iff_not
def Zc:type_of%@List.getElem?_eq_some_iff:=@List.getElem?_eq_some_iff
def Ze:type_of%@List.getElem?_eq_getElem:=@List.getElem?_eq_getElem
def Zf:type_of%@Option.some.injEq:=@Option.some.injEq
def Zg:type_of%@decide_eq_true_eq:=@decide_eq_true_eq
def Zh:type_of%@if_neg:=@if_neg
def Zi:type_of%@Nat.le_refl:=@Nat.le_refl
def Zj:type_of%@List.mem_of_getElem?:=@List.mem_of_getElem?
def Zl:type_of%@Nat.eq_of_beq_eq_true:=@Nat.eq_of_beq_eq_true
def Zn:type_of%@Bool.and_eq_true:=@Bool.and_eq_true
def Zp:type_of%@List.length_map:=@List.length_map
def Zq:type_of%@if_pos:=@if_pos
def Zr:type_of%@List.drop_eq_getElem_cons:=@List.drop_eq_getElem_cons
def Zt:type_of%@List.mem_cons:=@List.mem_cons
def Zu:type_of%@List.mem_cons_of_mem:=@List.mem_cons_of_mem
def Zv:type_of%@Bool.false_eq_true:=@Bool.false_eq_true
def Zw:type_of%@List.mem_cons_self:=@List.mem_cons_self
def Zx:type_of%@List.getElem?_map:=@List.getElem?_map
def Zy:type_of%@List.take_of_length_le:=@List.take_of_length_le
def Zz:type_of%@List.mem_append:=@List.mem_append
def ZA:type_of%@Nat.le_trans:=@Nat.le_trans
def ZB:type_of%@if_false:=@if_false
def ZC:type_of%@List.length_cons:=@List.length_cons
def ZD:type_of%@if_true:=@if_true
def ZE:type_of%@List.drop_eq_nil_of_le:=@List.drop_eq_nil_of_le
def ZF:type_of%@Option.bind_some:=@Option.bind_some
def ZG:type_of%@not_false_eq_true:=@not_false_eq_true
def ZH:type_of%@List.not_mem_nil:=@List.not_mem_nil
def ZI:type_of%@List.getElem?_cons_succ:=@List.getElem?_cons_succ
def ZJ:type_of%@Array.getElem?_eq_some_iff:=@Array.getElem?_eq_some_iff
def ZK:type_of%@Nat.lt_of_lt_of_le:=@Nat.lt_of_lt_of_le
def ZL:type_of%@Array.getElem?_toList:=@Array.getElem?_toList
def ZM:type_of%@Nat.zero_add:=@Nat.zero_add
def ZN:type_of%@Nat.add_assoc:=@Nat.add_assoc
def ZO:type_of%@List.length_nil:=@List.length_nil
def ZP:type_of%@List.length_append:=@List.length_append
def ZQ:type_of%@List.getElem?_cons_zero:=@List.getElem?_cons_zero
def ZR:type_of%@Nat.add_zero:=@Nat.add_zero
def ZS:type_of%@Option.map_some:=@Option.map_some
def ZT:type_of%@List.getElem?_append_right:=@List.getElem?_append_right
def ZU:type_of%@List.drop_zero:=@List.drop_zero
def ZV:type_of%@Option.bind_eq_some_iff:=@Option.bind_eq_some_iff
def ZW:type_of%@List.mem_map:=@List.mem_map
def ZX:type_of%@List.mem_iff_getElem?:=@List.mem_iff_getElem?
def ZY:type_of%@List.take_add_one:=@List.take_add_one
def ZZ:type_of%@Option.isSome_none:=@Option.isSome_none
def Z0:type_of%@List.take_succ_cons:=@List.take_succ_cons
def Z1:type_of%@List.take_zero:=@List.take_zero
def Z2:type_of%@List.getElem?_eq_none:=@List.getElem?_eq_none
def Z3:type_of%@List.getElem?_append_left:=@List.getElem?_append_left
def Z4:type_of%@List.drop_succ_cons:=@List.drop_succ_cons
def Z5:type_of%@Option.isSome_some:=@Option.isSome_some
def Z6:type_of%@List.set_cons_zero:=@List.set_cons_zero
def Z7:type_of%@List.set_cons_succ:=@List.set_cons_succ
def Z8:type_of%@decide_false:=@decide_false
def Z9:type_of%@Nat.add_mul:=@Nat.add_mul
def Ya:type_of%@Nat.le_succ:=@Nat.le_succ
def Yb:type_of%@List.map_cons:=@List.map_cons
def Yc:type_of%@Bool.and_self:=@Bool.and_self
def Yd:type_of%@Bool.and_true:=@Bool.and_true
def Ye:type_of%@and_true:=@and_true
def Yf:type_of%@Bool.eq_iff_iff:=@Bool.eq_iff_iff
def Yg:type_of%@Nat.lt_succ_self:=@Nat.lt_succ_self
def Yh:type_of%@Bool.not_false:=@Bool.not_false
def Yi:type_of%@Bool.not_true:=@Bool.not_true
def Yj:type_of%@Nat.mul_one:=@Nat.mul_one
def Yk:type_of%@beq_self_eq_true:=@beq_self_eq_true
def Yl:type_of%@Int.eq_ofNat_of_zero_le:=@Int.eq_ofNat_of_zero_le
def Ym:type_of%@Option.bind_assoc:=@Option.bind_assoc
def Yn:type_of%@Option.map_eq_some_iff:=@Option.map_eq_some_iff
def Yo:type_of%@decide_true:=@decide_true
def Yp:type_of%@List.flatten_cons:=@List.flatten_cons
def Yq:type_of%@List.append_nil:=@List.append_nil
def Yr:type_of%@or_false:=@or_false
def Ys:type_of%@List.size_toArray:=@List.size_toArray
def Yt:type_of%@List.eq_nil_of_length_eq_zero:=@List.eq_nil_of_length_eq_zero
def Yu:type_of%@Option.some.inj:=@Option.some.inj
def Yv:type_of%@List.map_append:=@List.map_append
def Yw:type_of%@List.length_drop:=@List.length_drop
def Yx:type_of%@Array.getElem?_append_left:=@Array.getElem?_append_left
def Yy:type_of%@List.map_congr_left:=@List.map_congr_left
def Yz:type_of%@List.takeWhile_cons:=@List.takeWhile_cons
def YA:type_of%@Nat.mod_eq_of_lt:=@Nat.mod_eq_of_lt
def YB:type_of%@List.getElem?_drop:=@List.getElem?_drop
def YC:type_of%@List.set_nil:=@List.set_nil
def YD:type_of%@List.cons.injEq:=@List.cons.injEq
def YE:type_of%@List.mem_filter:=@List.mem_filter
def YF:type_of%@List.nil_append:=@List.nil_append
def YG:type_of%@List.map_map:=@List.map_map
def YH:type_of%@List.pairwise_iff_getElem:=@List.pairwise_iff_getElem
def YI:type_of%@not_or:=@not_or
def YJ:type_of%@Int.emod_eq_of_lt:=@Int.emod_eq_of_lt
def YK:type_of%@Array.size_append:=@Array.size_append
def YL:type_of%@Nat.lt_trichotomy:=@Nat.lt_trichotomy
def YM:type_of%@List.getElem?_take_of_lt:=@List.getElem?_take_of_lt
def YN:type_of%@Prod.mk.injEq:=@Prod.mk.injEq
def YO:type_of%@Bool.eq_false_or_eq_true:=@Bool.eq_false_or_eq_true
def YP:type_of%@List.length_pos_iff:=@List.length_pos_iff
def YQ:type_of%@List.all_eq_true:=@List.all_eq_true
def YR:type_of%@Nat.le_mul_of_pos_right:=@Nat.le_mul_of_pos_right
def YS:type_of%@List.take_length:=@List.take_length
def YT:type_of%@Array.ext':=@Array.ext'
def YU:type_of%@beq_iff_eq:=@beq_iff_eq
def YV:type_of%@Bool.or_eq_true:=@Bool.or_eq_true
def YW:type_of%@Option.map_none:=@Option.map_none
def YX:type_of%@Bool.and_eq_false_iff:=@Bool.and_eq_false_iff
def YY:type_of%@Array.getElem?_modify:=@Array.getElem?_modify
def YZ:type_of%@Nat.le_div_iff_mul_le:=@Nat.le_div_iff_mul_le
def Y0:type_of%@Array.mem_of_getElem?:=@Array.mem_of_getElem?
def Y1:type_of%@List.ext_getElem?:=@List.ext_getElem?
def Y2:type_of%@List.flatMap_cons:=@List.flatMap_cons
def Y3:type_of%@List.mapM_cons:=@List.mapM_cons
def Y4:type_of%@List.mem_of_mem_drop:=@List.mem_of_mem_drop
def Y5:type_of%@List.mem_of_mem_take:=@List.mem_of_mem_take
def Y6:type_of%@Nat.le_of_eq:=@Nat.le_of_eq
def Y7:type_of%@Nat.beq_refl:=@Nat.beq_refl
def Y8:type_of%@Nat.lt_or_ge:=@Nat.lt_or_ge
def Y9:type_of%@Nat.sub_zero:=@Nat.sub_zero
def za:type_of%@Nat.le_add_right:=@Nat.le_add_right
def zb:type_of%@Option.getD_some:=@Option.getD_some
def zc:type_of%@List.length_take:=@List.length_take
def zd:type_of%@List.flatten_append:=@List.flatten_append
def ze:type_of%@Bool.true_and:=@Bool.true_and
def zf:type_of%@true_and:=@true_and
def zg:type_of%@and_self:=@and_self
def zh:type_of%@List.find?_cons:=@List.find?_cons
def zi:type_of%@List.find?_eq_none:=@List.find?_eq_none
def zj:type_of%@List.drop_drop:=@List.drop_drop
def zk:type_of%@Nat.le_of_lt:=@Nat.le_of_lt
def zl:type_of%@Nat.zero_mul:=@Nat.zero_mul
def zm:type_of%@Bool.and_assoc:=@Bool.and_assoc
def zn:type_of%@Nat.not_lt:=@Nat.not_lt
def zo:type_of%@Nat.zero_le:=@Nat.zero_le
def zp:type_of%@Nat.mul_comm:=@Nat.mul_comm
end Go
namespace Go.bg
noncomputable section
inductive S(α:Type) where
 |nil
 |node (v:Option α) (l r:S α)
 deriving Inhabited
universe ad
def bR{α:Type ad}(c:Bool)(t F:α):α:=Bool.rec (motive:=λ_=>α) F t c
def S.get{α:Type}(t:S α):Nat->Option α:=
 S.rec (motive:=λ_=>Nat->Option α) (λ_=>none)
  (λv _ _ iw p6 i=>Nat.rec (motive:=λ_=>Option α) v (λY _=>bR (Nat.beq (Nat.mod Y 2) 0) (iw (Nat.div Y 2)) (p6 (Nat.div Y 2))) i) t
def je{α eR:Type}(t:S α)(D:S α->eR):eR:=
 S.rec (motive:=λ_=>eR) (D .nil) (λv l r _ _=>D (.node v l r)) t
def S.rq{α:Type}(f:Nat):S α->Nat->Option α->S α:=
 Nat.rec (motive:=λ_=>S α->Nat->Option α->S α) (λt _ _=>t)
  (λ_ al t i J=>S.rec (motive:=λ_=>S α)
   (Nat.rec (motive:=λ_=>S α) (.node J .nil .nil) (λY _=>bR (Nat.beq (Nat.mod Y 2) 0)
    (je (al .nil (Nat.div Y 2) J) λb5=> .node none b5 .nil) (je (al .nil (Nat.div Y 2) J) λhH=> .node none .nil hH)) i)
   (λv l r _ _=>Nat.rec (motive:=λ_=>S α) (.node J l r) (λY _=>bR (Nat.beq (Nat.mod Y 2) 0)
    (je (al l (Nat.div Y 2) J) λb5=> .node v b5 r) (je (al r (Nat.div Y 2) J) λhH=> .node v l hH)) i) t) f
def p3{eR:Type}(n:Nat)(D:Nat->eR):eR:=Nat.rec (motive:=λ_=>eR) (D 0) (λm _=>D (Nat.succ m)) n
def PB{eR:Type}(n:Int)(D:Int->eR):eR:=
 Int.rec (motive:=λ_=>eR) (λm=>p3 m λm=>D (.ofNat m)) (λm=>p3 m λm=>D (.negSucc m)) n
def et{α:Type}(l:List (Nat×α)):Nat->Option α:=
 List.rec (motive:=λ_=>Nat->Option α) (λ_=>none) (λp _ al Y=>Prod.rec (motive:=λ_=>Option α) (λJ b=>bR (Nat.beq J Y) (some b) (al Y)) p) l
def S.set{α:Type}(t:S α)(i:Nat)(J:Option α):S α:=S.rq (i+1) t i J
def S.ofList{α:Type}:List α->Nat->S α->S α
 |[],_,t=>t
 |J::l,i,t=>je (t.set i (some J)) λhb=>ofList l (i+1) hb
def S.ku{α:Type}(t:S α):Nat->Nat->Option (List α)
 |_,0=>some []
 |W,n+1=>match t.get W with
  |none=>none
  |some J=>match ku t (W+1) n with
   |none=>none
   |some l=>some (J::l)
def n9{α:Type}(l:List α):Nat->Option α:=
 List.rec (motive:=λ_=>Nat->Option α) (λ_=>none) (λJ _ al i=>Nat.rec (motive:=λ_=>Option α) (some J) (λY _=>al Y) i) l
inductive H where
 |bool (b:Bool)
 |int (D:IntKind) (n:Int)
 |str (s:List Nat)
 |ptr (b W:Nat)
 |cq
 |slice (b W len cap:Nat)
 |fu (b W len bl:Nat)
 |aT
 |map (m:Nat)
 |lT
 |func (fn:Fn) (first fH:List H)
 |nilFunc
 |iface (t:Nat) (v:H)
 |nilIface
 |agg (cs:List H)
 |tuple (bk:List H)
 deriving Inhabited
def H.cells:H->List H
 | .agg cs=>cs
 |v=>[v]
def undef:H:= .tuple []
def Bq{α eR:Type}(f:α->Option eR):List α->Option (List eR)
 |[]=>some []
 |J::l=>match f J with
  |none=>none
  |some b=>match Bq f l with
   |none=>none
   |some r=>some (b::r)
def Bx:Nat->Value->Option H
 |0,_=>none
 |n+1,v=>match v with
  | .bool b=>some (.bool b)
  | .int D n=>some (.int D n)
  | .string s=>some (.str (s.data.toList.map (·.toNat)))
  | .pointer none=>some .cq
  | .slice none 0 0=>some .aT
  | .map none=>some .lT
  | .func (.func f) ⟨[]⟩ ⟨[]⟩=>some (.func (.func f) [] [])
  | .nilFunc=>some .nilFunc
  | .iface t v=>match Bx n v with|some J=>some (.iface t J)|none=>none
  | .nilIface=>some .nilIface
  | .agg cs=>match Bq (Bx n) cs.toList with|some l=>some (.agg l)|none=>none
  | .tuple cs=>match Bq (Bx n) cs.toList with|some l=>some (.tuple l)|none=>none
  |_=>none
def DG(v:Value):Option H:=Bx 20 v
inductive N8 where
 |fn (fn:Fn) (fH:List H)
 |collected (r:Nat)
structure hy where
 target:N8
 args:List H
inductive nE where
 |own|marked|grow (fk:List Nat)|jV
 deriving Inhabited
inductive ak where
 |cells (c:S H) (size:Nat) (st:nE)
 |map (bF:List (H×H×Nat)) (e6:Nat)
 |look (bF:List (H×H))
 |od (s:List Nat) (pos:Nat)
 |yJ (m:Option Nat) (vy:Nat) (seen:List Nat) (adY:Nat)
 |Gc (m vy n:Nat) (cL:List Nat) (st:Nat) (ng:Option Nat)
 |loop (state:LoopState) (pending:Option Code) (fn:Nat) (n aq:Nat) (K:S H) (params:List Nat) (assign body:Code) (defers:Nat)
 |deferred (pp:Option (List hy))
structure aW where
 P:Program
 G:S ak
 a7:Nat
 g6:Nat->List H->Option H
 o1:Nat
def aa(C:aW)(h:S ak)(b:Nat):Option ak:=
 bR (Nat.blt b C.a7) (C.G.get b) (h.get (Nat.sub b C.a7))
def bm(C:aW)(h:S ak)(b:Nat)(W:Option ak):S ak:=h.set (Nat.sub b C.a7) W
def kt(C:aW)(b:Nat):Bool:=Nat.ble C.a7 b
structure rC where
 v:H
 recovered:Bool
inductive kN where
 |run|returning|panicking (chain:List rC)
inductive ki where
 |v (Y:Nat)
 |t (n:Nat)
 |c (J:H)
inductive jF where
 |Dv (x:ki)
 |pick (c J b:ki)
 |fU (J:ki)
 |Bl (n:Nat) (J:ki)
 |off (d:Nat) (x:ki)
 |Be (n bl:Nat) (x i:ki)
 |Bf (bl:Nat) (x i:ki)
 |DB (x:ki)
 |I6 (op:BinOp) (x e:ki)
 |ext (i:Nat) (x:ki)
 |st (n:Nat) (J v:ki)
 |call (f:Nat) (args:List ki)
 |hX (b1:List (Nat×Nat)) (W:Op)
 |make (b1:List (Nat×Nat)) (W:Op)
 |fe (b1:List (Nat×Nat)) (W:Op)
structure fg where
 i:Nat
 g:Option (Nat×Bool)
 op:jF
structure wg where
 tx:List fg
 Sx:List fg
 fe:Option fg
inductive dN where
 |code (c:Code)
 |inBlock (id:Nat)
 |inLoop (body:Code)
 |inScope (body:Code)
 |GH (av:Array Oper) (au:List (Nat×H)) (rest:List fg) (fin:List (Nat×Nat))
 |drawn (av:Array Oper) (base:Nat) (au:List (Nat×H)) (k9:List wg) (fin:List (Nat×Nat))
 |sL (av:Array Oper) (au:List (Nat×H)) (a:Nat) (rest:List fg) (fin:List (Nat×Nat))
 |y6 (av:Array Oper) (base:Nat) (au:List (Nat×H)) (a:Nat) (k9:List wg) (fin:List (Nat×Nat))
 |inRangeFunc (l:Nat)
 |endRangeFunc (l:Nat)
 |beginRound
structure gC where
 fn:Nat
 n:Nat
 aq:Nat
 K:S H
 todo:List dN
 defers:List hy
 mode:kN
 deferred:Bool
 roundOf:Option Nat
section av
variable(C:aW)
def i1(t:Nat):Option Nat:=match C.P.info? t with|some i=>some i.size|none=>none
def sM(t:Nat):Option H:=match C.P.info? t with|some i=>(match i.zero with|some v=>DG v|none=>none)|none=>none
def Dh(t:Nat):Option Bool:=match C.P.underlying t with
 |some (.struct _)=>some true|some (.array _ _)=>some true|some _=>some false|none=>none
def lW:List H->Nat->List H->List H
 |cs,_,[]=>cs
 |cs,W,v::l=>lW (cs.set W v) (W+1) l
def AB(Gv:Nat->Option (Nat×Nat)):List H->List (Nat×H)->Option (List H)
 |cells,[]=>some cells
 |cells,(i,v)::rest=>match Gv i with
  |none=>none
  |some (off,size)=>
   bR (Nat.beq v.cells.length size&&Nat.ble (off+size) cells.length) (AB Gv (lW cells off v.cells) rest)<|none
def kF:Nat->List H->List H
 |0,_=>[]
 |n+1,br=>br++kF n br
def xY(aw:Operand->Option H):List (Nat×Operand)->Option (List (Nat×H))
 |[]=>some []
 |(i,x)::l=>match aw x,xY aw l with|some v,some r=>some ((i,v)::r)|_,_=>none
def pt(aw:Operand->Option H):List Operand->Option (List H)
 |[]=>some []
 |x::l=>match aw x,pt aw l with|some v,some r=>some (v::r)|_,_=>none
def S1(jO:List Field)(i:Nat):Option (Nat×Nat):=
 match n9 jO i with
 |some f=>(match i1 C f.type with|some s=>some (f.offset,s)|none=>none)
 |none=>none
def Nj:List Field->Bool
 |[]=>true
 |f::l=>(match i1 C f.type with|some _=>true|none=>false)&&Nj l
def Kz(t:Nat)(jU:List (Nat×H)):Option H:=
 match sM C t with
 |none=>none
 |some br=>match C.P.underlying t with
  |some (.struct jO)=>bR (Nj C jO.toList) (match AB (S1 C jO.toList) br.cells jU with|some cs=>some (.agg cs)|none=>none) none
  |some (.array _ eg)=>(match i1 C eg with
   |some s=>(match AB (λi=>some (i*s,s)) br.cells jU with|some cs=>some (.agg cs)|none=>none)
   |none=>none)
  |_=>none
def B7(t:Nat)(cs:List H)(off:Nat):Option H:=
 match Dh C t,i1 C t with
 |some true,some s=>some (.agg ((cs.drop off).take s))
 |some false,_=>n9 cs off
 |_,_=>none
def mE:List Nat->List Nat->Bool
 |[],[]=>true
 |J::x,b::e=>Nat.beq J b&&mE x e
 |_,_=>false
def Bt:List Nat->List Nat->Bool
 |_,[]=>false
 |[],_::_=>true
 |J::x,b::e=>Nat.blt J b||(Nat.beq J b&&Bt x e)
def Gt(h:S ak)(b W:Nat):Bool:=match aa C h b with
 |some (.cells _ n .own)=>kt C b&&Nat.blt W n
 |_=>false
def Bo(h:S ak)(b W:Nat):Bool:=match aa C h b with
 |some (.cells _ _ .jV)=>false
 |some (.cells _ n _)=>Nat.blt W n
 |_=>false
def ptrEq(h:S ak)(b W dR o':Nat):Option Bool:=
 bR (Nat.beq b dR) (some (Nat.beq W o')) (bR (Gt C h b W&&Bo C h dR o'||Gt C h dR o'&&Bo C h b W) (some false) none)
def B6(eq:Nat->H->H->Option Bool):List Field->List H->List H->Option Bool
 |[],_,_=>some true
 |f::jx,cm,nB=>
  bR (f.name== "_") none<|
  match B7 C f.type cm f.offset,B7 C f.type nB f.offset with
  |some J,some b=>(match eq f.type J b with
   |some true=>B6 eq jx cm nB
   |some false=>some false
   |none=>none)
  |_,_=>none
def l8(D e1:IntKind):Bool:=match D,e1 with
 | .i8, .i8=>true| .i16, .i16=>true| .i32, .i32=>true| .i64, .i64=>true
 | .u8, .u8=>true| .u16, .u16=>true| .u32, .u32=>true| .u64, .u64=>true
 |_,_=>false
def EE(J b:Bool):Bool:=match J,b with|true,true=>true|false,false=>true|_,_=>false
def ts(x e:Int):Bool:=match x,e with
 | .ofNat J, .ofNat b=>Nat.beq J b
 | .negSucc J, .negSucc b=>Nat.beq J b
 |_,_=>false
def yD(x e:Int):Bool:=match x,e with
 | .ofNat J, .ofNat b=>Nat.blt J b
 | .negSucc J, .negSucc b=>Nat.blt b J
 | .negSucc _, .ofNat _=>true
 | .ofNat _, .negSucc _=>false
def jX(h:S ak):Nat->Nat->H->H->Option Bool
 |0,_,_,_=>none
 |d+1,t,x,e=>
  match C.P.underlying t,x,e with
  |some .bool, .bool J, .bool b=>some (EE J b)
  |some (.int _), .int D J, .int e1 b=>bR (l8 D e1) (some (ts J b)) none
  |some .string, .str J, .str b=>some (mE J b)
  |some (.pointer _), .cq, .cq=>some true
  |some (.pointer _), .cq, .ptr _ _=>some false
  |some (.pointer _), .ptr _ _, .cq=>some false
  |some (.pointer F), .ptr b W, .ptr dR o'=>
   (
    match i1 C F with
    |some s=>bR (Nat.beq s 0) none (ptrEq C h b W dR o')
    |none=>none)
  |some (.interface _), .nilIface, .nilIface=>some true
  |some (.interface _), .nilIface, .iface _ _=>some false
  |some (.interface _), .iface _ _, .nilIface=>some false
  |some (.interface _), .iface J9 NV, .iface ty NW=>bR (Nat.beq J9 ty) (match C.P.info? J9 with
   |some i=>bR i.comparable (jX h d J9 NV NW) none
   |none=>none) (some false)
  |some (.slice _), .aT, .aT=>some true
  |some (.slice _), .aT, .slice .. =>some false
  |some (.slice _), .aT, .fu .. =>some false
  |some (.slice _), .slice .., .aT=>some false
  |some (.slice _), .fu .., .aT=>some false
  |some (.map _ _), .lT, .lT=>some true
  |some (.map _ _), .lT, .map _=>some false
  |some (.map _ _), .map _, .lT=>some false
  |some (.func _ _ _), .nilFunc, .nilFunc=>some true
  |some (.func _ _ _), .nilFunc, .func .. =>some false
  |some (.func _ _ _), .func .., .nilFunc=>some false
  |some (.struct jO), .agg cm, .agg nB=>bR (C.P.stoodInHeld t) none (B6 C (jX h d) jO.toList cm nB)
  |_,_,_=>none
def pe(D:IntKind)(n:Int):Int:=
 match D with
 | .i64=>(λm:Int=>bR (decide (m<9223372036854775808)) m (m-18446744073709551616)) (n%18446744073709551616)
 | .u64=>n%18446744073709551616
 | .u8=>n%256
 |D=>D.wrap n
def pB(D:IntKind)(n:Int):Option H:=PB n λn=>some (.int D n)
def k1(D:IntKind)(n:Int):Option H:=PB (pe D n) λn=>some (.int D n)
def nL(b:Bool):Option H:=bR b (some (.bool true)) (some (.bool false))
def ly(op:BinOp):IntKind->Int->Int->Option H:=
 match op with
 | .add=>λD x e=>k1 D (x+e)
 | .sub=>λD x e=>k1 D (x-e)
 | .mul=>λD x e=>k1 D (x*e)
 | .quo=>λD x e=>bR (ts e 0) none (k1 D (x.tdiv e))
 | .rem=>λD x e=>bR (ts e 0) none (pB D (x.tmod e))
 | .and=>λD x e=>k1 D ((BitVec.ofInt D.bits x&&& BitVec.ofInt D.bits e).toNat)
 | .or=>λD x e=>k1 D ((BitVec.ofInt D.bits x|||BitVec.ofInt D.bits e).toNat)
 | .xor=>λD x e=>k1 D ((BitVec.ofInt D.bits x^^^BitVec.ofInt D.bits e).toNat)
 | .andNot=>λD x e=>k1 D ((BitVec.ofInt D.bits x&&& ~~~ BitVec.ofInt D.bits e).toNat)
 | .eql=>λ_ x e=>nL (ts x e)
 | .neq=>λ_ x e=>nL (!ts x e)
 | .lss=>λ_ x e=>nL (yD x e)
 | .leq=>λ_ x e=>nL (!yD e x)
 | .gtr=>λ_ x e=>nL (yD e x)
 | .geq=>λ_ x e=>nL (!yD x e)
 |_=>λ_ _ _=>none
def Hi(op:BinOp)(D:IntKind)(x e:Int):Option H:=
 bR (yD e 0) none
 (match op with
 | .shl=>k1 D (x*2^(min e.toNat D.bits))
 | .shr=>pB D (x.fdiv (2^(min e.toNat D.bits)))
 |_=>none)
def lP(op:BinOp):Bool:=match op with| .shl| .shr=>true|_=>false
def Am(op:BinOp)(x e:List Nat):Option H:=
 match op with
 | .add=>bR (Nat.ble (x.length+e.length) 1000000000) (some (.str (x++e)))<|none
 | .eql=>nL (mE x e)
 | .neq=>nL (!mE x e)
 | .lss=>nL (Bt x e)
 | .leq=>nL (Bt x e||mE x e)
 | .gtr=>nL (!(Bt x e||mE x e))
 | .geq=>nL (!Bt x e)
 |_=>none
def aA(op:BinOp)(x e:H):Option H:=
 match x,e with
 | .int D J, .int e1 b=>bR (lP op) (Hi op D J b) (bR (l8 D e1) (ly op D J b) none)
 |_,_=>none
def ET(t:Nat)(sY:Bool)(x e:H):Bool:=match x,e with
 | .nilIface, .nilIface=>sY||(match C.P.underlying t with|some (.interface ik)=>ik.isEmpty|_=>false)
 | .agg _, .agg _=> !C.P.eqGuardType C.P.depth t
 |_,_=>true
def dj(h:S ak)(op:BinOp)(t:Nat)(sY:Bool)(x e:H):Option H:=
 match x,e with
 | .int D J, .int e1 b=>aA op (.int D J) (.int e1 b)
 | .str J, .str b=>Am op J b
 |x,e=>bR (ET C t sY x e) (match op with
  | .eql=>(match jX C h 50 t x e with|some b=>nL b|none=>none)
  | .neq=>(match jX C h 50 t x e with|some b=>nL (!b)|none=>none)
  |_=>none) none
def fz(op:UnOp)(x:H):Option H:=
 match op,x with
 | .neg, .int D n=>ly .sub D 0 n
 | .xor, .int D n=>ly .xor D (if D.signed then -1 else D.max) n
 | .not, .bool b=>nL (!b)
 |_,_=>none
def OC(au5 dst:Nat)(x:H):Option H:=
 match C.P.underlying au5,C.P.underlying dst,x with
 |some _,some (.int D), .int _ n=>k1 D n
 |some _,some .string, .str s=>some (.str s)
 |_,_,_=>none
def m1(v:H):Option Nat:=match v with| .int _ n=>(match n with| .ofNat n=>some n|_=>none)|_=>none
def oV(W:Option H)(m d:Nat):Option Nat:=match W with
 |some v=>(match m1 v with|some n=>bR (Nat.ble n m) (some n)<|none|none=>none)
 |none=>some d
def lY(len cap:Nat)(bT aM gN:Option H):Option (Nat×Nat×Nat):=
 match oV gN cap cap with
 |none=>none
 |some m=>match (match aM,gN with
   |none,some _=>none
   |aM,_=>oV aM m len)with
  |none=>none
  |some a=>match oV bT a 0 with
   |none=>none
   |some l=>some (l,a,m)
def BC(aw:Operand->Option H):Option Operand->Option (Option H)
 |none=>some none
 |some x=>match aw x with|some v=>some (some v)|none=>none
def xm(h:S ak)(b:Nat):Option Nat:=match aa C h b with|some (.cells _ n (.grow _))=>some n|some (.cells _ n .jV)=>some n|_=>none
def KF(h:S ak)(t:Nat)(x:H)(bT aM gN:Option H):Option H:=
 match C.P.underlying t,x with
 |some .string, .str s=>(match gN with
  |some _=>none
  |none=>(match lY s.length s.length bT aM none with
   |some (l,a,_)=>some (.str ((s.drop l).take (a-l)))
   |none=>none))
 |some (.slice eg), .slice b W len cap=>(match lY len cap bT aM gN,i1 C eg with
  |some (l,a,m),some bl=>some (.slice b (bR (Nat.beq m l) (W)<|W+l*bl) (a-l) (m-l))
  |_,_=>none)
 |some (.slice eg), .aT=>(match lY 0 0 bT aM gN,i1 C eg with
  |some _,some _=>some .aT
  |_,_=>none)
 |some (.slice eg), .fu b W len bl=>(match i1 C eg,xm C h b with
  |some xo,some n=>bR (Nat.beq bl xo&&Nat.blt 0 bl) ((match lY len ((n-W)/bl) bT aM gN with
    |some (l,a,m)=>(match gN with
     |some _=>some (.slice b (bR (Nat.beq m l) (W)<|W+l*bl) (a-l) (m-l))
     |none=>bR (Nat.blt l ((n-W)/bl)||Nat.beq l 0) (some (.fu b (W+l*bl) (a-l) bl))<|none)
    |none=>none))<|none
  |_,_=>none)
 |some (.array n eg), .ptr b W=>(match lY n n bT aM gN,i1 C eg with
  |some (l,a,m),some bl=>some (.slice b (bR (Nat.beq m l) (W)<|W+l*bl) (a-l) (m-l))
  |_,_=>none)
 |_,_=>none
def KC(t:Nat)(x i:H):Option H:=
 match m1 i with
 |none=>none
 |some i=>match C.P.underlying t,x with
  |some (.array n eg), .agg cs=>(match i1 C eg with|some bl=>bR (Nat.blt i n) (B7 C eg cs (i*bl))<|none|none=>none)
  |some .string, .str s=>(match n9 s i with|some c=>some (.int .u8 (Int.ofNat c))|none=>none)
  |_,_=>none
def cellsOf(h:S ak)(b:Nat):Option (S H):=match aa C h b with
 |some (.cells c _ _)=>some c
 |_=>none
def am(h:S ak)(J:H):Option H:=
 match J with
 | .ptr b W=>(match cellsOf C h b with
   |some c=>c.get W
   |none=>none)
 |_=>none
def b6(h:S ak)(n:Nat)(J:H):Option H:=
 match J with
 | .ptr b W=>(match cellsOf C h b with
   |some c=>(match c.ku W n with|some l=>some (.agg l)|none=>none)
   |none=>none)
 |_=>none
def lz(h:S ak)(t:Nat)(J:H):Option H:=
 match Dh C t,i1 C t with
 |some true,some s=>b6 C h s J
 |some false,_=>am C h J
 |_,_=>none
def mR:Nat->Nat->H->Bool
 |0,_,_=>false
 |n+1,t,v=>match C.P.underlying t,v with
  |some (.interface _), .iface d x=>(match C.P.info? d with|some i=>i.comparable&&mR n d x|none=>false)
  |some (.interface _), .nilIface=>true
  |some (.interface _),_=>false
  |some (.struct jO), .agg cs=>jO.toList.all λf=>f.name== "_"||(match B7 C f.type cs f.offset with|some p=>mR n f.type p|none=>false)
  |some (.struct _),_=>false
  |some (.array _ _),_=>false
  |some _,_=>true
  |none,_=>false
def nu:Nat->H->H->Bool
 |0,_,_=>false
 |n+1,x,e=>match x,e with
  | .bool J, .bool b=>EE J b
  | .int D J, .int e1 b=>l8 D e1&&ts J b
  | .str J, .str b=>mE J b
  | .ptr b W, .ptr dR o'=>Nat.beq b dR&&Nat.beq W o'
  | .cq, .cq=>true
  | .nilIface, .nilIface=>true
  | .iface t v, .iface hb hI=>Nat.beq t hb&&nu n v hI
  | .agg J, .agg b=>Bk n J b
  |_,_=>false
 where
 Bk (n:Nat):List H->List H->Bool
 |[],[]=>true
 |x::J,e::b=>nu n x e&&Bk n J b
 |_,_=>false
def findKey(h:S ak)(t:Nat)(D:H):List (H×H×Nat)->Nat->Option (Option (Nat×H))
 |[],_=>some none
 |(e1,v,_)::bF,i=>match jX C h 20 t D e1 with
  |some true=>some (some (i,v))
  |some false=>findKey h t D bF (i+1)
  |none=>none
def oZ(h:S ak)(t:Nat)(D:H):List (H×H)->Option (Option H)
 |[]=>some none
 |(e1,v)::bF=>match oZ h t D bF,jX C h 20 t D e1 with
  |some r,some false=>some r
  |some none,some true=>some (some v)
  |_,_=>none
def F8(r:Option (Option H)):Option (Option (Nat×H)):=match r with
 |some (some v)=>some (some (0,v))
 |some none=>some none
 |none=>none
def KE(h:S ak)(t:Nat)(m D:H)(ok:Bool):Option H:=
 match C.P.underlying t with
 |some (.map jC Ax)=>
  (match (match m with
   | .lT=>bR (mR C 20 jC D) (some none) none
   | .map r=>(match aa C h r with|some (.map bF _)=>bR (mR C 20 jC D) (findKey C h jC D bF 0) none|some (.look bF)=>bR (mR C 20 jC D) (F8 (oZ C h jC D bF)) none|_=>none)
   |_=>none)with
  |none=>none
  |some none=>(match sM C Ax with|some br=>some (bR (ok) (.tuple [br, .bool false])<|br)|none=>none)
  |some (some (_,v))=>some (bR (ok) (.tuple [v, .bool true])<|v))
 |_=>none
def KD(h:S ak)(t:Nat)(x:H):Option H:=
 match C.P.underlying t,x with
 |some .string, .str s=>pB .i64 (Int.ofNat s.length)
 |some (.array n _),_=>some (.int .i64 (Int.ofNat n))
 |some (.pointer cn),_=>(match C.P.underlying cn with|some (.array n _)=>some (.int .i64 (Int.ofNat n))|_=>none)
 |some (.slice _), .slice _ _ n _=>pB .i64 (Int.ofNat n)
 |some (.slice _), .fu _ _ n _=>pB .i64 (Int.ofNat n)
 |some (.slice _), .aT=>some (.int .i64 0)
 |some (.map _ _), .lT=>some (.int .i64 0)
 |some (.map _ _), .map r=>(match aa C h r with|some (.map bF _)=>pB .i64 (Int.ofNat bF.length)|_=>none)
 |_,_=>none
def KA(t:Nat)(x:H):Option H:=
 match C.P.underlying t,x with
 |some (.slice _), .slice _ _ _ n=>pB .i64 (Int.ofNat n)
 |some (.slice _), .aT=>some (.int .i64 0)
 |_,_=>none
def nf(gN:Bool):H->List H->Option H
 |v,[]=>some v
 | .int D x, .int _ e::l=>nf gN (.int D (bR (gN) ((bR (yD x e) (e)<|x))<|(bR (yD e x) (e)<|x))) l
 |_,_=>none
def xN:List H->Option (List Nat)
 |[]=>some []
 | .int .u8 (.ofNat n)::l=>(match xN l with|some r=>some (n%256::r)|none=>none)
 |_=>none
def mT(h:S ak)(b W n:Nat):Option (List H):=
 match cellsOf C h b with
 |some c=>c.ku W n
 |none=>bR (Nat.beq n 0) (some []) none
def Es(h:S ak)(x:H):Option H:=
 match x with
 | .aT=>some (.str [])
 | .slice b W len _=>(match mT C h b W len with|some l=>(match xN l with|some s=>some (.str s)|none=>none)|none=>none)
 | .fu b W len _=>(match mT C h b W len with|some l=>(match xN l with|some s=>some (.str s)|none=>none)|none=>none)
 |_=>none
def RK(t:Nat)(jU:Array (Nat×Operand))(_:S ak)(aw:Operand->Option H):Option H:=
 match xY aw jU.toList with|some dl=>Kz C t dl|none=>none
def ql(W:Operand):Bool:=match W with| .const _=>true|_=>false
def MY(op:BinOp)(t:Nat)(x e:Operand)(h:S ak)(aw:Operand->Option H):Option H:=
 match aw x,aw e with|some J,some b=>dj C h op t (ql x||ql e) J b|_,_=>none
def RS(op:UnOp)(x:Operand)(_:S ak)(aw:Operand->Option H):Option H:=
 match aw x with|some J=>fz op J|none=>none
def Jj(s d:Nat)(x:Operand)(h:S ak)(aw:Operand->Option H):Option H:=
 match aw x with
 |some J=>(match OC C s d J with
  |some v=>some v
  |none=>(match C.P.underlying s,C.P.underlying d with
   |some (.slice F),some .string=>(match C.P.underlying F with|some (.int .u8)=>Es C h J|_=>none)
   |_,_=>none))
 |none=>none
def Jl(t:Nat)(x:Operand)(_:S ak)(aw:Operand->Option H):Option H:=
 match C.P.underlying t,aw x with
 |some (.interface _),_=>none
 |some _,some v=>some (.iface t v)
 |_,_=>none
def RO(fn:Fn)(first fH:Array Operand)(_:S ak)(aw:Operand->Option H):Option H:=
 match pt aw first.toList,pt aw fH.toList with
 |some J,some b=>(match fn with| .func f=>some (.func (.func f) J b)|_=>none)
 |_,_=>none
def RR(t:Nat)(x:Operand)(bT aM gN:Option Operand)(h:S ak)(aw:Operand->Option H):Option H:=
 match aw x,BC aw bT,BC aw aM,BC aw gN with
 |some v,some l,some a,some m=>KF C h t v l a m
 |_,_,_,_=>none
def Jk(t:Nat)(x:Operand)(f:Nat)(_:S ak)(aw:Operand->Option H):Option H:=
 match C.P.underlying t,aw x with
 |some (.struct jO),some (.agg cs)=>(match n9 jO.toList f with
  |some rV=>B7 C rV.type cs rV.offset
  |none=>none)
 |_,_=>none
def RP(t:Nat)(x i:Operand)(_:S ak)(aw:Operand->Option H):Option H:=
 match aw x,aw i with|some J,some b=>KC C t J b|_,_=>none
def RQ(t:Nat)(m D:Operand)(ok:Bool)(h:S ak)(aw:Operand->Option H):Option H:=
 match aw m,aw D with|some J,some b=>KE C h t J b ok|_,_=>none
def Ji(x:Operand)(t2:Nat)(ok:Bool)(_:S ak)(aw:Operand->Option H):Option H:=
 match C.P.underlying t2,aw x with
 |some (.interface _),_=>none
 |some _,some .nilIface=>bR (ok) ((match sM C t2 with|some br=>some (.tuple [br, .bool false])|none=>none))<|none
 |some _,some (.iface t v)=>bR (Nat.beq t t2) (some (bR (ok) (.tuple [v, .bool true])<|v))<|bR (ok) ((match sM C t2 with|some br=>some (.tuple [br, .bool false])|none=>none))<|none
 |_,_=>none
def RL(b:Builtin)(args:Array Operand)(dg:Array TypeId)(h:S ak)(aw:Operand->Option H):Option H:=
 match b,pt aw args.toList with
 | .len,some [x]=>(match dg.toList with|t::_=>KD C h t x|_=>none)
 | .cap,some [x]=>(match dg.toList with|t::_=>KA C t x|_=>none)
 | .max,some (x::l)=>nf true x l
 | .min,some (x::l)=>nf false x l
 |_,_=>none
def RM(c:Call)(h:S ak)(aw:Operand->Option H):Option H:=
 match c with
 |⟨.builtin b,args,dg⟩=>RL C b args dg h aw
 |_=>none
def ab9:List Nat->Option Nat
 |[]=>none
 |J::l=>match l with|[]=>some J|_=>ab9 l
def RN(_:Operand)(_:S ak)(_:Operand->Option H):Option H:=(λ_:aW=>none) C
def nH(W:Op):aW->S ak->(Operand->Option H)->Option H:=
 match W with
 | .build t jU=>λC=>RK C t jU
 | .binOp op t x e _=>λC=>MY C op t x e
 | .unOp op _ x=>λ_=>RS op x
 | .convert s d x=>λC=>Jj C s d x
 | .makeInterface t x=>λC=>Jl C t x
 | .makeFunc fn first fH=>λ_=>RO fn first fH
 | .slice t x bT aM gN=>λC=>RR C t x bT aM gN
 | .field t x f=>λC=>Jk C t x f
 | .index t x i=>λC=>RP C t x i
 | .lookup t m D ok=>λC=>RQ C t m D ok
 | .typeAssert x _ t2 ok=>λC=>Ji C x t2 ok
 | .entry eJ=>λC=>RN C eJ
 | .call c=>λC=>RM C c
 |_=>λ_ _ _=>none
def BK(c:jF):Bool:=match c with
 | .fU _| .Bl _ _=>true
 | .hX _ W=>(match W with
   | .lookup .. | .convert .. | .slice .. | .call _| .binOp .. | .entry _=>true
   |_=>false)
 |_=>false
def Ds(t:Nat)(_:Operand->Option H)(b:Nat):Option (H×ak):=
 match sM C t with|some br=>some (.ptr b 0, .cells (S.ofList br.cells 0 .nil) br.cells.length .own)|none=>none
def Jp(x:Operand)(aw:Operand->Option H)(b:Nat):Option (H×ak):=
 match aw x with|some v=>some (.ptr b 0, .cells (S.ofList v.cells 0 .nil) v.cells.length .own)|none=>none
def Jq(t len:Nat)(jU:Array (Nat×Operand))(aw:Operand->Option H)(b:Nat):Option (H×ak):=
 match C.P.underlying t,xY aw jU.toList with
 |some (.slice eg),some dl=>(match i1 C eg,sM C eg with
  |some s,some br=>bR (Nat.ble (len*s) 16777216&&Nat.beq br.cells.length s) ((match AB (λi=>some (i*s,s)) (kF len br.cells) dl with
    |some cs=>some (.slice b 0 len len, .cells (S.ofList cs 0 .nil) cs.length .own)
    |none=>none))<|none
  |_,_=>none)
 |_,_=>none
def pU(W:Op):aW->(Operand->Option H)->Nat->Option (H×ak):=
 match W with
 | .alloc t=>λC=>Ds C t
 | .box _ x=>λ_=>Jp x
 | .buildSlice t len jU=>λC=>Jq C t len jU
 | .makeMap _ none=>λ_ _ b=>some (.map b, .map [] 0)
 |_=>λ_ _ _=>none
def pD:List Nat->S ak->S ak
 |[],a=>a
 |b::l,a=>pD l (bm C a b none)
def dT:S H->Nat->List H->S H
 |c,_,[]=>c
 |c,W,v::l=>je (c.set W (some v)) λc=>dT c (W+1) l
def pH(v:H):Bool:=match v with| .agg _=>false| .tuple _=>false|_=>true
def jD:List H->Bool
 |[]=>true
 |v::l=>pH v&&jD l
def wi(h:S ak)(b W:Nat)(bk:List H):Option (S ak):=
 match aa C h b with
 |some (.cells c n st)=>bR (Nat.ble (W+bk.length) n&&kt C b&&jD bk) ((match st with
   | .own=>je (dT c W bk) λc=>je (bm C h b (some (.cells c n .own))) λh=>some h
   | .marked=>je (dT c W bk) λc=>je (bm C h b (some (.cells c n .marked))) λh=>some h
   | .grow fk=>je (dT c W bk) λc=>je (bm C (pD C fk h) b (some (.cells c n (.grow [])))) λh=>some h
   |_=>none))<|none
 |_=>none
def k8(h:S ak)(bl:Nat)(x:H):Option (Nat×List H):=
 match x with
 | .aT=>some (0,[])
 | .slice b W len _=>(match mT C h b W (len*bl)with|some l=>some (len,l)|none=>none)
 | .fu b W len _=>(match mT C h b W (len*bl)with|some l=>some (len,l)|none=>none)
 | .str s=>bR (Nat.beq bl 1) (some (s.length,s.map λn=>H.int .u8 (Int.ofNat n))) none
 |_=>none
inductive ea where
 |val (v:H)
 |fv (v:H) (h:S ak) (j:Nat)
 |enter (f:Nat) (args:List H)
 |known (f:Nat) (args:List H) (v:H)
 |round (l:Nat) (args:List H)
 |defer (d:hy)
 |recover
 |panic (v:H)
 |fork (l:List (H×S ak))
def m2(C:aW)(h:S ak)(j:Nat)(W:ak)(D:Nat->H):Option ea:=
 p3 j λj=>je (bm C h j (some W)) λh=>some (.fv (D j) h (j+1))
def s7(h:S ak)(j n bl:Nat)(l:List H):Option ea:=
 bR (Nat.ble n 1048576) (m2 C h j (.cells (S.ofList l 0 .nil) l.length (.grow [])) λb=> .fu b 0 n bl)<|none
def Hk(h:S ak)(j:Nat)(b W len bl n:Nat)(l:List H):Option ea:=
 match aa C h b with
 |some (
   .cells c size (.grow fk))=>bR (kt C b)
  (bR (
   Nat.ble (W+(len+n)*bl) size)
   (match wi C h b (W+len*bl) l with|some T=>some (.fv (.fu b W (len+n) bl) T j)|none=>none)
   (bR (Nat.ble (len+n) 1048576&&jD l) (bR (Nat.beq (W+len*bl) size&&Nat.beq W 0)
    (je (dT c size l) λfZ=>m2 C (bm C h b (some (.cells c size .jV))) j (.cells fZ (size+l.length) (.grow (b::fk))) λdR=> .fu dR 0 (len+n) bl)
    (match c.ku W (len*bl)with
    |some fO=>m2 C (bm C (pD C fk h) b none) j (.cells (S.ofList (fO++l) 0 .nil) (fO++l).length (.grow [])) λdR=> .fu dR 0 (len+n) bl
    |none=>none)) none)) none
 |_=>none
def xI(h:S ak)(j:Nat)(bl n:Nat)(l:List H)(s:H):Option ea:=
 match s with
 | .aT=>s7 C h j n bl l
 | .slice b W len cap=>bR (Nat.ble (len+n) cap) ((match wi C h b (W+len*bl) l with|some T=>some (.fv (.slice b W (len+n) cap) T j)|none=>none))<|(match mT C h b W (len*bl)with
    |some fO=>s7 C h j (len+n) bl (fO++l)
    |none=>none)
 | .fu b W len xo=>bR (Nat.beq xo bl) (Hk C h j b W len bl n l)<|none
 |_=>none
def Ev(h:S ak)(bl:Nat)(s:H):Option ea:=
 match s with
 | .aT=>some (.val .aT)
 | .slice b W len cap=>bR (Nat.ble len cap) (some (.val (.slice b W len cap))) none
 | .fu b W len xo=>bR (Nat.beq xo bl) (match xm C h b with
   |some n=>bR (Nat.ble (W+len*bl) n) (some (.val (.fu b W len xo))) none
   |none=>none) none
 |_=>none
def KB(h:S ak)(j:Nat)(st:Nat)(s:H)(n:Nat):Option ea:=
 match C.P.underlying st with
 |some (.slice eg)=>(match C.P.info? eg,sM C eg with
  |some i,some br=>bR (Nat.blt 0 i.size&&Nat.ble i.bytes 65536&&Nat.beq br.cells.length i.size&&Nat.ble n 1048576) (bR (Nat.beq n 0) (Ev C h i.size s)<|xI C h j i.size n (kF n br.cells) s)<|none
  |_,_=>none)
 |_=>none
def aez(i:TypeInfo):Bool:=match i.zero with|some br=>Nat.beq br.cells.size i.size|none=>false
def Ep(h:S ak)(j:Nat)(st:Nat)(s x:H):Option ea:=
 match C.P.underlying st with
 |some (.slice eg)=>(match C.P.info? eg with
  |some i=>(match k8 C h i.size x with
   |some (n,l)=>bR (Nat.blt 0 i.size&&Nat.ble i.bytes 65536&&aez i) ((bR (Nat.beq n 0) (Ev C h i.size s)<|xI C h j i.size n l s))<|none
   |none=>none)
  |none=>none)
 |_=>none
def awY(h:S ak)(j:Nat)(b W m:Nat)(l:List H):Option ea:=
 bR (Nat.beq m 0) (some (.val (.int .i64 0)))<|
 (match wi C h b W l with|some T=>some (.fv (.int .i64 (Int.ofNat m)) T j)|none=>none)
def setObj(h:S ak)(j:Nat)(r:Nat)(W:ak)(v:H):Option ea:=
 bR (kt C r) (je (bm C h r (some W)) λh=>some (.fv v h j))<|none
def Hg(h:S ak)(j:Nat)(t:Nat)(m D v:H):Option ea:=
 match C.P.underlying t,m with
 |some (.map jC _), .map r=>(match aa C h r with
  |some (.map bF e6)=>bR (mR C 20 jC D) (match findKey C h jC D bF 0 with
   |some (some (i,_))=>(match n9 bF i with
    |some (e1,_,born)=>bR (nu 20 e1 D) (setObj C h j r (.map (bF.set i (D,v,born)) e6) undef) none
    |none=>none)
   |some none=>setObj C h j r (.map (bF++[(D,v,e6)]) (e6+1)) undef
   |none=>none) none
  |_=>none)
 |_,_=>none
def Nv(x e:H):Bool:=match x,e with
    | .bool J, .bool b=>EE J b
    | .int D J, .int e1 b=>l8 D e1&&ts J b
    | .str J, .str b=>mE J b
    | .aT, .aT=>true
    | .cq, .cq=>true
    | .nilIface, .nilIface=>true
    |_,_=>false
def DM:List H->List H->Bool
 |[],[]=>true
 |J::x,b::e=>Nv J b&&DM x e
 |_,_=>false
def known(f:Nat)(args:List H):List (Nat×List H×H)->Option H
 |[]=>none
 |(g,cp,v)::l=>bR (Nat.beq f g&&DM args cp) (some v)<|known f args l
def rN(f:Nat)(args:List H):Option ea:=
 match C.g6 f args with
 |some v=>some (.known f args v)
 |none=>(match C.P.funcs[f]? with
  |some fn=>(match fn.body with
   |some _=>some (.enter f args)
   |none=>none)
  |none=>none)
def Al(fn:Fn)(fH args:List H):Option ea:=
 match fn with
 | .func f=>rN C f (args++fH)
 | .yield l=>some (.round l args)
 |_=>none
def Er(h:S ak)(t:Nat)(v:H)(name:String)(args:List H):Option ea:=
 match C.P.info? t with
 |some i=>(match i.methods.find? (·.name==name)with
  |some m=>bR m.path.isEmpty (match m.func,C.P.underlying t with
   |some (f,true),some (.pointer _)=>rN C f (v::args)
   |some (f,false),some (.pointer F)=>(match lz C h F v with|some x=>rN C f (x::args)|none=>none)
   |some (f,false),some _=>rN C f (v::args)
   |_,_=>none) none
  |none=>none)
 |none=>none
def NN(h:S ak)(j s:Nat)(J v:H):Option ea:=
 match J with
 | .ptr b W=>bR (Nat.beq v.cells.length s&&Nat.blt 0 s) ((match wi C h b W v.cells with|some T=>some (.fv undef T j)|none=>none))<|none
 |_=>none
def Fc(t:Nat)(m D x:Operand)(h:S ak)(j:Nat)(aw:Operand->Option H):Option ea:=
 match aw m,aw D,aw x with
 |some m,some D,some v=>Hg C h j t m D v
 |_,_,_=>none
def Ic(_:Nat)(_ _:Operand)(_:S ak)(_:Nat)(_:Operand->Option H):Option ea:=(λ_:aW=>none) C
def H4(_ _ _:Operand)(_:S ak)(_:Nat)(_:Operand->Option H):Option ea:=(λ_:aW=>none) C
def Ib(t:Nat)(l c:Operand)(h:S ak)(j:Nat)(aw:Operand->Option H):Option ea:=
 match C.P.underlying t,aw l,aw c with
 |some (.slice eg),some l,some c=>(match m1 l,m1 c,C.P.info? eg,sM C eg with
  |some l,some c,some i,some br=>bR (Nat.ble l c&&Nat.ble c 1048576&&Nat.ble i.bytes 65536&&Nat.blt 0 i.size&&Nat.beq br.cells.length i.size) (m2 C h j (.cells (S.ofList (kF c br.cells) 0 .nil) (c*i.size) .own) λb=> .slice b 0 l c)<|none
  |_,_,_,_=>none)
 |_,_,_=>none
def Ia(t:Nat)(r:Operand)(h:S ak)(j:Nat)(aw:Operand->Option H):Option ea:=
 match C.P.underlying t,aw r with
 |some (.map _ _),some (.int _ _)=>m2 C h j (.map [] 0) λb=> .map b
 |_,_=>none
def Ig(s d:Nat)(x:Operand)(h:S ak)(j:Nat)(aw:Operand->Option H):Option ea:=
 match C.P.underlying s,C.P.underlying d,aw x with
 |some .string,some (.slice F),some (.str l)=>(match C.P.underlying F with
  |some (.int .u8)=>s7 C h j l.length 1 (l.map λn=>H.int .u8 (Int.ofNat n))
  |_=>none)
 |some (.slice _),some (.slice F),some (.slice b W len cap)=>(match C.P.underlying F with
  |some (.int .u8)=>bR (Nat.beq s d&&kt C b) (match aa C h b with
   |some (.cells c n .own)=>je (bm C h b (some (.cells c n .marked))) λh=>some (.fv (.slice b W len cap) h j)
   |some (.cells _ _ .marked)=>some (.val (.slice b W len cap))
   |_=>none) none
  |_=>none)
 |_,_,_=>none
def Ie(t:Nat)(x:Operand)(h:S ak)(j:Nat)(aw:Operand->Option H):Option ea:=
 match C.P.underlying t,aw x with
 |some .string,some (.str s)=>m2 C h j (.od s 0) λb=> .ptr b 0
 |some (.map _ _),some .lT=>m2 C h j (.yJ none 0 [] 0) λb=> .ptr b 0
 |some (.map _ _),some (.map r)=>(match aa C h r with
  |some (.map _ e6)=>m2 C h j (.yJ (some r) e6 [] e6) λb=> .ptr b 0
  |_=>none)
 |_,_=>none
def n8(n:Nat):List Nat->Bool
 |[]=>false
 |J::l=>Nat.beq n J||n8 n l
def wK(eJ:Operand)(yE:Bool)(h:S ak)(j:Nat)(aw:Operand->Option H):Option ea:=
 match aw eJ with
 |some (.ptr r 0)=>bR (kt C r) (match aa C h r,yE with
  |some (.od s pos),true=>bR (Nat.blt pos s.length) (match n9 s pos with
    |some c=>bR (Nat.blt c 128) (setObj C h j r (.od s (pos+1)) (.tuple [.bool true, .int .i64 (Int.ofNat pos), .int .i32 (Int.ofNat c)])) none
    |none=>none)
   (some (.val (.tuple [.bool false])))
  |some (.yJ none _ _ _),false=>some (.val (.tuple [.bool false]))
  |_,_=>none) none
 |_=>none
def Qg(x:Operand)(_:S ak)(_:Nat)(aw:Operand->Option H):Option ea:=
 match aw x with|some (.iface t v)=>some (.panic (.iface t v))|_=>none
def P0(c:Call)(_:S ak)(_:Nat)(aw:Operand->Option H):Option ea:=
 match c with
 |⟨.value f,args,_⟩=>(match aw f,pt aw args.toList with
  |some (.func fn first fH),some cp=>some (.defer ⟨.fn fn fH,first++cp⟩)
  |_,_=>none)
 |_=>none
def HX(b:Builtin)(args:Array Operand)(dg:Array TypeId)(h:S ak)(j:Nat)(aw:Operand->Option H):Option ea:=
 match b,pt aw args.toList with
 | .append,some [s,x]=>(match dg.toList with
   |st::io::_=>(match C.P.underlying io with
    |some (.int _)=>(match m1 x with|some n=>KB C h j st s n|none=>none)
    |some (.slice _)=>Ep C h j st s x
    |some .string=>Ep C h j st s x
    |_=>none)
   |_=>none)
 | .recover,some []=>some .recover
 |_,_=>none
def Cz(c:Call)(h:S ak)(j:Nat)(aw:Operand->Option H):Option ea:=
 match c with
 |⟨.value f,args,_⟩=>(match aw f,pt aw args.toList with
  |some (.func fn first fH),some cp=>Al C fn fH (first++cp)
  |_,_=>none)
 |⟨.builtin b,args,dg⟩=>HX C b args dg h j aw
 |⟨.invoke r name,args,_⟩=>(match aw r,pt aw args.toList with
  |some (.iface t v),some cp=>Er C h t v name cp
  |_,_=>none)
def nd(W:Op):aW->S ak->Nat->(Operand->Option H)->Option ea:=
 match W with
 | .mapUpdate t m D x=>λC=>Fc C t m D x
 | .insert t m D x=>λC=>Fc C t m D x
 | .mapEntry t m D=>λC=>Ic C t m D
 | .entryStore _ m s x=>λC=>H4 C m s x
 | .makeSlice t l c=>λC=>Ib C t l c
 | .makeMap t (some r)=>λC=>Ia C t r
 | .convert s d x=>λC=>Ig C s d x
 | .range t x=>λC=>Ie C t x
 | .next eJ yE=>λC=>wK C eJ yE
 | .panic x=>λ_=>Qg x
 | .defer c=>λ_=>P0 c
 | .call c=>λC=>Cz C c
 |_=>λ_ _ _ _=>none
end av
def kS(x:ki):List (Nat×H)->S H->Option H:=
 match x with
 | .v Y=>λau _=>et au Y
 | .t n=>λ_ K=>K.get n
 | .c J=>λ_ _=>some J
def Ay(au:List (Nat×H))(K:S H):List ki->Option (List H)
 |[]=>some []
 |x::l=>match kS x au K with
  |none=>none
  |some v=>match Ay au K l with
   |none=>none
   |some r=>some (v::r)
def iT(b1:List (Nat×Nat))(au:List (Nat×H))(K:S H)(W:Operand):Option H:=match W with
 | .tmp t=>(match et b1 t with|some Y=>et au Y|none=>K.get t)
 | .const v=>DG v
 | .global g=>some (.ptr g 0)
 | .func f=>some (.func (.func f) [] [])
def aZ(d:Nat)(v:H):Option H:=match v with| .ptr b W=>some (.ptr b (W+d))|_=>none
def N5(c:H)(J b:ki)(au:List (Nat×H))(K:S H):Option H:=match c with
 | .bool c=>bR c (kS J au K) (kS b au K)
 |_=>none
def Kl(n bl:Nat)(x:H)(i:Nat):Option H:=match x with| .ptr b W=>bR (Nat.blt i n) (some (.ptr b (W+i*bl))) none|_=>none
def BT(bl:Nat)(x:H)(i:Nat):Option H:=match x with
 | .slice b W len _=>bR (Nat.blt i len) (some (.ptr b (W+i*bl))) none
 | .fu b W len _=>bR (Nat.blt i len) (some (.ptr b (W+i*bl))) none
 |_=>none
def cf(v:H):Option H:=match v with
 | .ptr b W=>some (.ptr b W)
 | .func fn J b=>(match fn with| .func f=>some (.func (.func f) J b)| .yield f=>some (.func (.yield f) J b)|_=>none)
 | .iface t v=>some (.iface t v)
 |_=>none
def cN(i:Nat)(v:H):Option H:=match v with| .tuple bk=>n9 bk i|_=>none
def gJ(W:jF):aW->S ak->List (Nat×H)->S H->Option H:=
 match W with
 | .Dv x=>λ_ _=>kS x
 | .pick c J b=>λ_ _ au K=>(match kS c au K with|some c=>N5 c J b au K|none=>none)
 | .fU J=>λC h au K=>(match kS J au K with|some J=>am C h J|none=>none)
 | .Bl n J=>λC h au K=>(match kS J au K with|some J=>b6 C h n J|none=>none)
 | .off d x=>λ_ _ au K=>(match kS x au K with|some J=>aZ d J|none=>none)
 | .Be n bl x i=>λ_ _ au K=>(match kS x au K with|some J=>(match kS i au K with|some i=>(match m1 i with|some i=>Kl n bl J i|none=>none)|none=>none)|none=>none)
 | .Bf bl x i=>λ_ _ au K=>(match kS x au K with|some J=>(match kS i au K with|some i=>(match m1 i with|some i=>BT bl J i|none=>none)|none=>none)|none=>none)
 | .DB x=>λ_ _ au K=>(match kS x au K with|some J=>cf J|none=>none)
 | .I6 op x e=>λ_ _ au K=>(match kS x au K with|some J=>(match kS e au K with|some b=>aA op J b|none=>none)|none=>none)
 | .ext i x=>λ_ _ au K=>(match kS x au K with|some J=>cN i J|none=>none)
 | .hX b1 W=>λC h au K=>nH W C h (iT b1 au K)
 |_=>λ_ _ _ _=>none
def nQ(W:jF):aW->Nat->List (Nat×H)->S H->Option (H×ak):=
 match W with
 | .make b1 W=>λC b au K=>pU W C (iT b1 au K) b
 |_=>λ_ _ _ _=>none
def hJ(W:jF):aW->S ak->Nat->List (Nat×H)->S H->Option ea:=
 match W with
 | .st n J v=>λC h j au K=>(match kS J au K with|some J=>(match kS v au K with|some v=>NN C h j n J v|none=>none)|none=>none)
 | .call f args=>λC _ _ au K=>(match Ay au K args with|some cp=>rN C f cp|none=>none)
 | .fe b1 W=>λC h j au K=>nd W C h j (iT b1 au K)
 |_=>λ_ _ _ _ _=>none
inductive aeO where|hX|make|fe
def mA(W:jF):aeO:=match W with
 | .st .. => .fe| .call .. => .fe| .fe .. => .fe
 | .make .. => .make
 |_=> .hX
def M5(W:jF)(C:aW)(h:S ak)(j:Nat)(au:List (Nat×H))(K:S H):Option ea:=
 p3 j λj=>(match nQ W C j au K with|some (v,cR)=>je (bm C h j (some cR)) λh=>some (.fv v h (j+1))|none=>none)
def bit(m i:Nat):Bool:=Nat.beq (Nat.mod (Nat.div m (Nat.pow 2 i)) 2) 1
def mJ(b1:List (Nat×Nat))(W:Operand):Option ki:=match W with
 | .tmp t=>(match et b1 t with|some Y=>some (.v Y)|none=>some (.t t))
 | .const v=>(match DG v with|some J=>some (.c J)|none=>none)
 | .global g=>some (.c (.ptr g 0))
 | .func f=>some (.c (.func (.func f) [] []))
def GR(b1:List (Nat×Nat)):List Operand->Option (List ki)
 |[]=>some []
 |x::l=>match mJ b1 x,GR b1 l with|some v,some r=>some (v::r)|_,_=>none
def aqC(C:aW)(s d:Nat):Bool:=match C.P.underlying s,C.P.underlying d with
 |some .string,some (.slice _)=>true
 |some (.slice _),some (.slice _)=>true
 |_,_=>false
def aqz(C:aW)(t:Nat):Bool:=match C.P.underlying t with|some (.int _)=>true|_=>false
def lB(C:aW)(b1:List (Nat×Nat))(W:Op):Option jF:=
 match W with
 | .move x| .assign x=>(match mJ b1 x with|some x=>some (.Dv x)|none=>none)
 | .pick c J b=>(match mJ b1 c,mJ b1 J,mJ b1 b with|some c,some J,some b=>some (.pick c J b)|_,_,_=>none)
 | .load t J=>(match mJ b1 J,Dh C t,i1 C t with
   |some J,some true,some s=>some (.Bl s J)
   |some J,some false,_=>some (.fU J)
   |_,_,_=>none)
 | .fieldAddr s x f=>(match C.P.underlying s,mJ b1 x with
   |some (.struct jO),some x=>(match n9 jO.toList f with
    |some rV=>(match i1 C rV.type with|some br=>bR (Nat.beq br 0) (none)<|some (.off rV.offset x)|none=>none)
    |none=>none)
   |_,_=>none)
 | .indexAddr t x i=>(match C.P.underlying t,mJ b1 x,mJ b1 i with
   |some (.array n eg),some x,some i=>(match i1 C eg with|some bl=>some (.Be n bl x i)|none=>none)
   |some (.slice eg),some x,some i=>(match i1 C eg with|some bl=>some (.Bf bl x i)|none=>none)
   |_,_,_=>none)
 | .nilCheck x=>(match mJ b1 x with|some x=>some (.DB x)|none=>none)
 | .binOp op t x e GX=>bR (aqz C t) ((match mJ b1 x,mJ b1 e with|some x,some e=>some (.I6 op x e)|_,_=>none))<|some (.hX b1 (.binOp op t x e GX))
 | .extract x i=>(match mJ b1 x with|some x=>some (.ext i x)|none=>none)
 | .store t J x=>(match mJ b1 J,mJ b1 x,i1 C t with|some J,some x,some s=>some (.st s J x)|_,_,_=>none)
 | .call ⟨.value (.func f),args,dg⟩=>(match GR b1 args.toList with|some cp=>some (.call f cp)|none=>none)
 | .call ⟨.builtin b,args,dg⟩=>(match b with
   | .len| .cap| .max| .min=>some (.hX b1 (.call ⟨.builtin b,args,dg⟩))
   |_=>some (.fe b1 (.call ⟨.builtin b,args,dg⟩)))
 | .call c=>some (.fe b1 (.call c))
 | .convert s d x=>bR (aqC C s d) (some (.fe b1 (.convert s d x)))<|some (.hX b1 (.convert s d x))
 | .alloc t=>some (.make b1 (.alloc t))
 | .box t x=>some (.make b1 (.box t x))
 | .buildSlice t l p=>some (.make b1 (.buildSlice t l p))
 | .makeMap t none=>some (.make b1 (.makeMap t none))
 | .makeMap t (some r)=>some (.fe b1 (.makeMap t (some r)))
 | .mapUpdate t m D x=>some (.fe b1 (.mapUpdate t m D x))
 | .insert t m D x=>some (.fe b1 (.insert t m D x))
 | .mapEntry t m D=>some (.fe b1 (.mapEntry t m D))
 | .entryStore t m s x=>some (.fe b1 (.entryStore t m s x))
 | .makeSlice t l c=>some (.fe b1 (.makeSlice t l c))
 | .range t x=>some (.fe b1 (.range t x))
 | .next i s=>some (.fe b1 (.next i s))
 | .panic x=>some (.fe b1 (.panic x))
 | .defer c=>some (.fe b1 (.defer c))
 |W=>some (.hX b1 W)
def wu(Y:Nat):List (Nat×Nat)->Option Nat
 |[]=>none
 |(t,i)::l=>bR (Nat.beq i Y) (some t)<|wu Y l
def Hr(ej:List (Nat×Nat))(g:Option (Nat×Bool)):Option (Option (Nat×Bool)):=match g with
 |none=>some none
 |some (Y,lu)=>(match wu Y ej with
  |some t=>(match et ej t with
   |some oR=>bR (Nat.beq Y oR) (some (some (Y,lu)))<|none
   |none=>none)
  |none=>none)
def xG(W:Oper)(i:Nat)(ej:List (Nat×Nat)):List (Nat×Nat):=match W.dst with|some d=>(d,i)::ej|none=>ej
def K0(n:Nat)(W:Oper):Bool:=match W.dst with|some d=>Nat.blt d n|none=>true
def yO(C:aW)(aq:Nat)(b1:List (Nat×Nat))(W:Operand):Bool:=match W with
 | .tmp t=>(match et b1 t with|some _=>true|none=>bit aq t)
 | .global g=>Nat.blt g C.o1
 |_=>true
def DI(C:aW)(aq:Nat)(b1:List (Nat×Nat)):List Operand->Bool
 |[]=>true
 |x::l=>yO C aq b1 x&&DI C aq b1 l
def rS(C:aW)(n aq:Nat):List Oper->Nat->List (Nat×Nat)->Option (List fg)
 |[],_,_=>some []
 |W::l,i,ej=>p3 i λi=>match Hr ej W.guard,lB C ej W.op with
  |some g,some op=>bR (K0 n W&&DI C aq ej W.op.operands.toList) (match rS C n aq l (i+1) (xG W i ej)with|some r=>some (⟨i,g,op⟩::r)|none=>none) none
  |_,_=>none
def kT(aq:Nat):List Oper->Nat->List (Nat×Nat)
 |[],_=>[]
 |W::l,i=>match W.dst with
  |some d=>bR (bit aq d) ((i,d)::kT aq l (i+1))<|kT aq l (i+1)
  |none=>kT aq l (i+1)
def dstsOf:List Oper->List Nat
 |[]=>[]
 |W::l=>match W.dst with|some d=>d::dstsOf l|none=>dstsOf l
structure Od where
 rest:List fg
 fin:List (Nat×Nat)
def Jv(C:aW)(n:Nat)(av:Array Oper)(aq:Nat):Option Od:=
 match rS C n aq av.toList 0 []with
 |some cs=>some ⟨cs,kT aq av.toList 0⟩
 |none=>none
def Gr(W:Operand)(m:Nat):Nat:=match W with| .tmp t=>Nat.lor m (Nat.pow 2 t)|_=>m
def Gs(l:List Operand):Nat:=l.foldr Gr 0
def HD(W:Oper):Nat:=match W.dst with|some d=>Nat.pow 2 d|none=>0
def Lx(ej:List (Nat×Nat))(g:Option (Nat×Bool)):Nat:=match g with
 |none=>0
 |some (Y,_)=>(match wu Y ej with|some t=>Nat.pow 2 t|none=>0)
def Cm(ik:List (Nat×Nat))(F:Edge)(m:Nat):Nat:=
 bR (bit m F.on) (m)<|bR (Region.binds .any F) ((match et ik F.on with|some D=>Nat.lor (Nat.lor m D) (Nat.pow 2 F.on)|none=>m))<|m
structure gd where
 i:Nat
 m:Nat
 r:Nat
 w:Nat
def Bs:List Oper->Nat->List (Nat×Nat)->List (Nat×Nat)->List gd
 |[],_,_,_=>[]
 |W::l,i,ej,ik=>p3 i λi=>p3 (W.after.toList.foldr (Cm ik) 0) λm=>
  ⟨i,m,Nat.lor (Gs W.op.operands.toList) (Lx ej W.guard),HD W⟩::Bs l (i+1) (xG W i ej) ((i,m)::ik)
def Nk(J b:gd):Bool:=
 bit b.m J.i||(Nat.beq (Nat.land J.w (Nat.lor b.r b.w)) 0&&Nat.beq (Nat.land b.w J.r) 0)
def Nn(J:gd):List gd->Bool
 |[]=>true
 |b::l=>Nk J b&&Nn J l
def JF:List gd->Bool
 |[]=>true
 |J::l=>Nn J l&&JF l
def It:List gd->Bool
 |[]=>true
 |J::l=>(match l with|[]=>true|b::_=>bit b.m J.i)&&It l
def DH:List Oper->Nat->Bool
 |[],_=>true
 |W::l,i=>W.after.toList.all (λF=> !Region.binds .any F||Nat.blt F.on i)&&DH l (i+1)
def uc(m:Nat):List gd->Nat
 |[]=>0
 |a::l=>bR (bit m a.i) (Nat.succ (uc m l))<|uc m l
def AS(i:Nat):List gd->Nat
 |[]=>0
 |a::l=>bR (bit a.m i) (0)<|Nat.succ (AS i l)
structure pj where
 x:fg
 bT:Nat
 aM:Nat
def nt(W:jF):Bool:=match mA W with| .fe=>true|_=>false
def Fk:List gd->List fg->List (gd×fg)
 |p::dl,c::cs=>bR (nt c.op) ((p,c)::Fk dl cs)<|Fk dl cs
 |_,_=>[]
def F6(aI:List gd):List gd->List fg->List pj
 |p::dl,c::cs=>bR (nt c.op) (F6 aI dl cs)<|⟨c,uc p.m aI,AS p.i aI⟩::F6 aI dl cs
 |_,_=>[]
def sQ(D:Nat):List pj->List fg
 |[]=>[]
 |l::ij=>bR (Nat.beq l.bT D) (l.x::sQ D ij)<|sQ D ij
def DQ(D:Nat):List pj->List fg
 |[]=>[]
 |l::ij=>bR (Nat.blt l.bT D&&Nat.ble D l.aM&&BK l.x.op) (l.x::DQ D ij)<|DQ D ij
def yK(ij:List pj):Nat->List (gd×fg)->List wg
 |D,[]=>[⟨sQ D ij,DQ D ij,none⟩]
 |D,(_,ag)::l=>⟨sQ D ij,DQ D ij,some ag⟩::yK ij (D+1) l
def p4:List (gd×fg)->List gd
 |[]=>[]
 |(p,_)::l=>p::p4 l
structure Oc where
 k9:List wg
 fin:List (Nat×Nat)
def Ju(C:aW)(n:Nat)(av:Array Oper)(aq:Nat):Option Oc:=
 match rS C n aq av.toList 0 []with
 |none=>none
 |some cs=>(λall=>(λaI=>bR (DH av.toList 0&&JF all&&It (p4 aI)) (some ⟨yK (F6 (p4 aI) all cs) 0 aI,kT aq av.toList 0⟩)<|none) (Fk all cs)) (Bs av.toList 0 [] [])
def W1:List Oper->Nat->Nat->Nat
 |[],_,r=>r
 |W::l,Wx,r=>W1 l (Nat.lor Wx (HD W)) ((λrd=>Nat.lor r (Nat.xor rd (Nat.land rd Wx))) (Gs W.op.operands.toList))
def kb:Code->Nat
 | .region _ av _=>W1 av.toList 0 0
 | .seq J b=>Nat.lor (kb J) (kb b)
 | .cond c J b=>Gr c (Nat.lor (kb J) (kb b))
 | .block _ b=>kb b
 | .loop b=>kb b
 | .scope b=>kb b
 | .rangeFunc f _ J b=>Gr f (Nat.lor (kb J) (kb b))
 |_=>0
def nx(l:List ResultVar):Nat:=l.foldr (λx r=>match x with| .tmp t=>Nat.lor r (Nat.pow 2 t)| .cell J _=>Nat.lor r (Nat.pow 2 J)) 0
def lC(C:aW)(aq:Nat):Code->Bool
 | .seq J b=>lC C aq J&&lC C aq b
 | .cond c J b=>yO C aq [] c&&(lC C aq J&&lC C aq b)
 | .block _ b=>lC C aq b
 | .loop b=>lC C aq b
 | .scope b=>lC C aq b
 | .rangeFunc f _ J b=>yO C aq [] f&&(lC C aq J&&lC C aq b)
 |_=>true
def yU(aq:Nat):List ResultVar->Bool
 |[]=>true
 | .tmp t::l=>bit aq t&&yU aq l
 | .cell J _::l=>bit aq J&&yU aq l
end
end Go.bg
@[match_pattern]abbrev Go.bg.H.Z(x:Int):Go.bg.H:=.int .i64 x
namespace Go.bg
@[simp] def e2{α:Type _}(J b:α):bR true J b=J:=rfl
@[simp] def jK{α:Type _}(J b:α):bR false J b=b:=rfl
def fo{α:Type _}(c:Bool)(J b:α):bR c J b=if c=true then J else b:=by cases c<;>rfl
def hB{α:Type _}(x e:Nat)(J b:α):bR (Nat.beq x e) J b=if x=e then J else b:=by
 rw[fo];by_cases a:x=e
 ·rw[Zq a,Zq (Nat.beq_eq▸a)]
 ·rw[Zh a,Zh (λF=>a (Zl F))]
@[simp] def eY{α:Type _}(c:Bool)(J:Option α)(v:α):bR c J none=some v↔c=true/\J=some v:=by cases c<;>simp
@[simp] def l0{eR:Type}(n:Nat)(D:Nat->eR):p3 n D=D n:=by cases n<;>rfl
@[simp] def EW{eR:Type}(n:Int)(D:Int->eR):PB n D=D n:=by
  cases n with
  |ofNat m=>exact l0 m λm=>D (.ofNat m)
  |negSucc m=>exact l0 m λm=>D (.negSucc m)
@[simp] def he{α eR:Type}(t:S α)(D:S α->eR):je t D=D t:=by cases t<;>rfl
@[simp] def ajn{α:Type}(Y:Nat):et ([]:List (Nat×α)) Y=none:=rfl
def qS{α:Type}(J:Nat)(b:α)(l:List (Nat×α))(Y:Nat):et ((J,b)::l) Y=if J=Y then some b else et l Y:=by
 show bR (Nat.beq J Y) (some b) (et l Y)=_
 rw[hB]
@[simp] def pE{α:Type}(l:List α):∀i,n9 l i=l[i]? :=by
  induction l with
  |nil=>intro i;rfl
  |cons J l al=>intro i;cases i with
   |zero=>rfl
   |succ Y=>exact al Y
namespace S
variable{α:Type}
@[simp] def aw3(i:Nat):(S.nil:S α).get i=none:=rfl
@[simp] def aw4(v:Option α)(l r:S α):(S.node v l r).get 0=v:=rfl
def AD(v:Option α)(l r:S α)(Y:Nat):(S.node v l r).get (Y+1)=if Y%2=0 then l.get (Y/2)else r.get (Y/2):=by
 show bR (Nat.beq (Y%2) 0) (l.get (Y/2)) (r.get (Y/2))=_
 rw[hB]
def auI(f:Nat)(J:Option α):rq (f+1) S.nil 0 J= .node J .nil .nil:=rfl
def auH(f Y:Nat)(J:Option α):rq (f+1) S.nil (Y+1) J=
 if Y%2=0 then .node none (rq f .nil (Y/2) J) .nil else .node none .nil (rq f .nil (Y/2) J):=by
 show bR (Nat.beq (Y%2) 0) (je (rq f .nil (Y/2) J) λb5=>S.node none b5 S.nil) (je (rq f .nil (Y/2) J) λhH=>S.node none S.nil hH)=_
 rw[hB,he,he]
def auK(f:Nat)(v:Option α)(l r:S α)(J:Option α):rq (f+1) (.node v l r) 0 J= .node J l r:=rfl
def auJ(f Y:Nat)(v:Option α)(l r:S α)(J:Option α):rq (f+1) (.node v l r) (Y+1) J=
 if Y%2=0 then .node v (rq f l (Y/2) J) r else .node v l (rq f r (Y/2) J):=by
 show bR (Nat.beq (Y%2) 0) (je (rq f l (Y/2) J) λb5=>S.node v b5 r) (je (rq f r (Y/2) J) λhH=>S.node v l hH)=_
 rw[hB,he,he]
def amo:∀(f:Nat) (t:S α) (i Y:Nat) (J:Option α),i<f->(rq f t i J).get Y=if i=Y then J else t.get Y:=by
 intro f
 induction f with
 |zero=>intro t i Y J a;omega
 |succ f al=>
  intro t i Y J a
  cases i with
  |zero=>
   cases t with
   |nil=>rw[auI];cases Y with
    |zero=>simp
    |succ Y=>rw[AD];simp
   |node v l r=>rw[auK];cases Y with
    |zero=>simp
    |succ Y=>rw[AD,AD];simp
  |succ i=>
   have aM:i/2<f:=Zo
   cases t with
   |nil=>
    rw[auH]
    cases Y with
    |zero=>split<;>simp
    |succ Y=>
     by_cases F:i%2=0
     ·rw[Zq F,AD]
      by_cases ib:Y%2=0
      ·rw[Zq ib,al _ _ _ _ aM]
       by_cases an:i/2=Y/2
       ·rw[Zq an,Zq Zo]
       ·rw[Zh an,Zh Zo];rfl
      ·rw[Zh ib,Zh Zo];rfl
     ·rw[Zh F,AD]
      by_cases ib:Y%2=0
      ·rw[Zq ib,Zh Zo];rfl
      ·rw[Zh ib,al _ _ _ _ aM]
       by_cases an:i/2=Y/2
       ·rw[Zq an,Zq Zo]
       ·rw[Zh an,Zh Zo];rfl
   |node v l r=>
    rw[auJ]
    cases Y with
    |zero=>split<;>simp
    |succ Y=>
     rw[AD v l r]
     by_cases F:i%2=0
     ·rw[Zq F,AD]
      by_cases ib:Y%2=0
      ·rw[Zq ib,Zq ib,al _ _ _ _ aM]
       by_cases an:i/2=Y/2
       ·rw[Zq an,Zq Zo]
       ·rw[Zh an,Zh Zo]
      ·rw[Zh ib,Zh ib,Zh Zo]
     ·rw[Zh F,AD]
      by_cases ib:Y%2=0
      ·rw[Zq ib,Zq ib,Zh Zo]
      ·rw[Zh ib,Zh ib,al _ _ _ _ aM]
       by_cases an:i/2=Y/2
       ·rw[Zq an,Zq Zo]
       ·rw[Zh an,Zh Zo]
def j1(t:S α)(i Y:Nat)(J:Option α):(t.set i J).get Y=if i=Y then J else t.get Y:=amo _ _ _ _ _ Zo
def Lp(l:List α):∀(i:Nat) (t:S α) (Y:Nat),(ofList l i t).get Y=if i<=Y/\Y<i+l.length then l[Y-i]? else t.get Y:=by
 induction l with
 |nil=>intro i t Y;simp only[ofList,ZO];rw[Zh Zo]
 |cons J l al=>
  intro i t Y
  simp only[ofList,he]
  rw[al,j1]
  by_cases F:i=Y
  ·subst F;rw[Zh Zo,Zq rfl,Zq Zs];simp
  ·rw[Zh F]
   by_cases an:i+1<=Y/\Y<i+1+l.length
   ·rw[Zq an,Zq (by simp;omega)]
    have:Y-i=(Y-(i+1))+1:=Zo
    rw[this,ZI]
   ·rw[Zh an,Zh (by simp;omega)]
def PN(t:S α):∀(n W:Nat) (l:List α),t.ku W n=some l->l.length=n/\∀i,i<n->t.get (W+i)=l[i]? :=by
 intro n
 induction n with
 |zero=>intro W l a;simp[ku]at a;subst a;simp
 |succ n al=>
  intro W l a
  simp only[ku]at a
  cases b0:t.get W with
  |none=>simp[b0]at a
  |some J=>
   simp only[b0]at a
   cases Z:ku t (W+1) n with
   |none=>simp[Z]at a
   |some r=>
    simp only[Z,Zf]at a
    subst a
    obtain⟨R,U⟩:=al _ _ Z
    refine⟨by simp[R],λi aM=> ?_⟩
    cases i with
    |zero=>simpa using b0
    |succ i=>rw[show W+(i+1)=W+1+i by omega,U i Zo];simp
end S
def Ti(l:List H):∀(c:S H) (W:Nat),dT c W l=S.ofList l W c:=by
 induction l with
 |nil=>intro c W;rfl
 |cons v l al=>intro c W;simp only[dT,S.ofList,he];exact al _ _
structure mj where
 cE:Nat
 ed:Nat
 room:Nat
 deriving Inhabited
abbrev c6:=Nat->mj
def mS(Q:c6):Fn->Fn
 | .yield l=> .yield (Q l).cE
 |f=>f
def fX(s:List Nat):ByteArray:=⟨(s.map UInt8.ofNat).toArray⟩
mutual
def aN(Q:c6):H->Value
 | .bool b=> .bool b
 | .int D n=> .int D n
 | .str s=> .string (fX s)
 | .ptr b W=> .pointer (some ⟨(Q b).cE,(Q b).ed+W,none⟩)
 | .cq=> .pointer none
 | .slice b W len cap=> .slice (some ⟨(Q b).cE,(Q b).ed+W,none⟩) len cap
 | .fu b W len bl=> .slice (some ⟨(Q b).cE,(Q b).ed+W,none⟩) len (((Q b).room-W)/bl)
 | .aT=> .slice none 0 0
 | .map m=> .map (some (Q m).cE)
 | .lT=> .map none
 | .func fn J b=> .func (mS Q fn) (bX Q J).toArray (bX Q b).toArray
 | .nilFunc=> .nilFunc
 | .iface t v=> .iface t (aN Q v)
 | .nilIface=> .nilIface
 | .agg cs=> .agg (bX Q cs).toArray
 | .tuple bk=> .tuple (bX Q bk).toArray
def bX(Q:c6):List H->List Value
 |[]=>[]
 |v::l=>aN Q v::bX Q l
end
def pq(Q:c6)(l:List H):bX Q l=l.map (aN Q):=by
 induction l with
 |nil=>rfl
 |cons v l al=>simp[bX,al]
def Lr(ae:Nat->Prop):Fn->Prop
 | .yield l=>ae l
 | .func _=>True
 |_=>False
mutual
def ch(ae:Nat->Prop):H->Prop
 | .bool _=>True
 | .int _ _=>True
 | .str s=>∀x∈s,x<256
 | .ptr b _=>ae b
 | .cq=>True
 | .slice b _ _ _=>ae b
 | .fu b _ _ _=>ae b
 | .aT=>True
 | .map m=>ae m
 | .lT=>True
 | .func fn J b=>Lr ae fn/\ew ae J/\ew ae b
 | .nilFunc=>True
 | .iface _ v=>ch ae v
 | .nilIface=>True
 | .agg cs=>ew ae cs
 | .tuple bk=>ew ae bk
def ew(ae:Nat->Prop):List H->Prop
 |[]=>True
 |v::l=>ch ae v/\ew ae l
end
def ul(ae:Nat->Prop)(l:List H):ew ae l↔∀v∈l,ch ae v:=by
 induction l with
 |nil=>simp[ew]
 |cons v l al=>simp[ew,al]
mutual
def O3{Q ip:c6}{ae:Nat->Prop}(a:∀b,ae b->Q b=ip b):∀v,ch ae v->aN Q v=aN ip v
 | .bool _,_=>rfl
 | .int _ _,_=>rfl
 | .str _,_=>rfl
 | .ptr b W,g=>by simp only[aN,a b g]
 | .cq,_=>rfl
 | .slice b W l c,g=>by simp only[aN,a b g]
 | .fu b W l c,g=>by simp only[aN,a b g]
 | .aT,_=>rfl
 | .map m,g=>by simp only[aN,a m g]
 | .lT,_=>rfl
 | .func fn J b,g=>by
   obtain⟨b3,b2,cQ⟩:=g
   have F:mS Q fn=mS ip fn:=by
    cases fn<;>simp only[mS]
    rw[a _ b3]
   simp only[aN,F,EL a J b2,EL a b cQ]
 | .nilFunc,_=>rfl
 | .iface t v,g=>by simp only[aN,O3 a v g]
 | .nilIface,_=>rfl
 | .agg cs,g=>by simp only[aN,EL a cs g]
 | .tuple bk,g=>by simp only[aN,EL a bk g]
def EL{Q ip:c6}{ae:Nat->Prop}(a:∀b,ae b->Q b=ip b):∀l,ew ae l->bX Q l=bX ip l
 |[],_=>rfl
 |v::l,g=>by simp only[bX,O3 a v g.1,EL a l g.2]
end
mutual
def oC{ae di:Nat->Prop}(a:∀b,ae b->di b):∀v,ch ae v->ch di v
 | .bool _,_=>trivial
 | .int _ _,_=>trivial
 | .str _,g=>g
 | .ptr b _,g=>a b g
 | .cq,_=>trivial
 | .slice b _ _ _,g=>a b g
 | .fu b _ _ _,g=>a b g
 | .aT,_=>trivial
 | .map m,g=>a m g
 | .lT,_=>trivial
 | .func fn J b,g=>⟨by cases fn<;>first|exact a _ g.1|exact g.1,qY a J g.2.1,qY a b g.2.2⟩
 | .nilFunc,_=>trivial
 | .iface _ v,g=>oC a v g
 | .nilIface,_=>trivial
 | .agg cs,g=>qY a cs g
 | .tuple bk,g=>qY a bk g
def qY{ae di:Nat->Prop}(a:∀b,ae b->di b):∀l,ew ae l->ew di l
 |[],_=>trivial
 |v::l,g=>⟨oC a v g.1,qY a l g.2⟩
end
end Go.bg

namespace Go.bg
open Go.RowKit (Below)
structure ja(Q:c6)(ae:Nat->Prop)(n aq:Nat)(K:S H)(tmps:Array Value):Prop where
 size:tmps.size=n
 val:∀t v,bit aq t=true->K.get t=some v->tmps[t]? =some (aN Q v)/\ch ae v
def Og(C:aW)(fn aq:Nat):Prop:=∃f,C.P.funcs[fn]? =some f/\yU aq f.results.toList=true
def F0(c:Code):Prop:=c= .ret\/∃id,c= .exit id
def Cc(Q:c6):N8->Target
 | .fn fn fH=> .fn (mS Q fn) (bX Q fH).toArray
 | .collected r=> .collected (Q r).cE
def lA(Q:c6)(d:hy):Deferred:=⟨Cc Q d.target,(bX Q d.args).toArray⟩
def amx(ae:Nat->Prop):N8->Prop
 | .fn fn fH=>Lr ae fn/\ew ae fH
 | .collected r=>ae r
def wD(ae:Nat->Prop)(d:hy):Prop:=amx ae d.target/\ew ae d.args
def Em(st:nE)(n:Nat)(pl:mj)(bl bT aM:Nat):Prop:=match st with
 | .own=>bT=aM
 | .marked=>bT=aM\/bl<=bT
 | .grow _=>(bT=aM\/bl<=bT)/\n<=pl.room/\pl.ed+pl.room<=bl
 | .jV=>True/\n<=pl.room/\pl.ed+pl.room<=bl
def Em.free{st:nE}{n:Nat}{pl:mj}{bl bT aM:Nat}(a:Em st n pl bl bT aM)(j6:st≠ .jV):aM<=bT\/bl<=bT:=by
 cases st with
 |own=>exact .inl (Y6 a.symm)
 |marked=>exact a.imp (λF=>Y6 F.symm) id
 |grow _=>exact a.1.imp (λF=>Y6 F.symm) id
 |jV=>exact absurd rfl j6
def lF(Q:c6)(F:H×H×Nat):MapEntry:=⟨aN Q F.1,aN Q F.2.1,F.2.2⟩
def jG(C:aW)(Q:c6)(ae:Nat->Prop)(W:ak)(pl:mj)(w:World):Prop:=match W with
 | .cells c n st=>∃cn ty bT aM,w.heap[pl.cE]? =some (.cells cn ty (bT,aM))/\Em st n pl cn.size bT aM/\pl.ed+n<=cn.size/\
    ∀i v,c.get i=some v->cn[pl.ed+i]? =some (aN Q v)/\ch ae v
 | .map bF e6=>∃cn,w.heap[pl.cE]? =some (.map cn e6)/\cn.toList=bF.map (lF Q)/\∀F∈bF,ch ae F.1/\ch ae F.2.1
 | .look bF=>∃(cn:Array MapEntry) (e6:Nat) (jN:List (H×H×Nat)),w.heap[pl.cE]? =some (.map cn e6)/\cn.toList=jN.map (lF Q)/\(jN.map λF=>(F.1,F.2.1)).Perm bF/\∀F∈jN,ch ae F.1/\ch ae F.2.1
 | .od s pos=>pl.ed=0/\w.heap[pl.cE]? =some (.stringIter (fX s) pos)/\∀x∈s,x<256
 | .yJ m vy seen st=>pl.ed=0/\w.heap[pl.cE]? =some (.mapIter (m.map λb=>(Q b).cE) vy seen.toArray st)/\∀b,m=some b->ae b
 | .Gc m vy n cL st ng=>pl.ed=0/\ae m/\∃seen:List Nat,w.heap[pl.cE]? =some (.mapIter (some (Q m).cE) vy seen.toArray st)/\(cL.filter λb=> !seen.contains b).length<=n/\∀b,ng=some b->ab9 seen=some b
 | .loop state pending fn n aq K params assign body bb=>∃tmps,w.heap[pl.cE]? =some (.loop ⟨state,pending,fn,tmps,params.toArray,assign,body,(Q bb).cE⟩)/\ja Q ae n aq K tmps/\ae bb/\
    lC C aq assign=true/\lC C aq body=true/\(∀c,pending=some c->F0 c)/\Og C fn aq
 | .deferred pp=>w.heap[pl.cE]? =some (.deferred (pp.map λl=>l.map (lA Q)))/\∀l,pp=some l->∀d∈l,wD ae d
def Ox(W o':ak)(b dR:Nat):Prop:=
 (∃c n fZ aS,W= .cells c n .jV/\o'= .cells fZ aS .jV)\/
 (∃c n l fZ aS,W= .cells c n (.grow l)/\o'= .cells fZ aS .jV/\dR∈l/\aS<=n)\/
 (∃c n l fZ aS,o'= .cells fZ aS (.grow l)/\W= .cells c n .jV/\b∈l/\n<=aS)
def tS(C:aW)(ae:Nat->Prop)(W:ak):Prop:=(∀c n l,W= .cells c n (.grow l)->∀x∈l,ae x/\C.a7<=x)/\∀c n st,W= .cells c n st->∀i v,c.get i=some v->i<n
structure de(C:aW)(Q:c6)(ae:Nat->Prop)(h:S ak)(j bi:Nat)(w:World):Prop where
 a7:C.a7<=j
 lt:∀b,ae b->b<j
 vn:∀b W,aa C h b=some W->b<j
 obj:∀b W,aa C h b=some W->ae b->jG C Q ae W (Q b) w
 sep:∀b dR W o',aa C h b=some W->aa C h dR=some o'->ae b->ae dR->b≠dR->C.a7<=b->(Q b).cE=(Q dR).cE->Ox W o' b dR/\(Q b).ed=(Q dR).ed
 base:∀b W,C.a7<=b->aa C h b=some W->ae b->bi<=(Q b).cE
 fk:∀b W,aa C h b=some W->ae b->tS C ae W
def i7(Q:c6)(ae:Nat->Prop)(aw:Operand->Value)(ez:Operand->Option H)(l:List Operand):Prop:=
 ∀x∈l,∀v,ez x=some v->aw x=aN Q v/\ch ae v
section
variable{C:aW}{Q:c6}{ae:Nat->Prop}{h:S ak}{j bi:Nat}{w:World}
def OT(s:ByteArray):fX (s.data.toList.map (·.toNat))=s:=by
 unfold fX
 rw[YG]
 have:(UInt8.ofNat∘λx:UInt8=>x.toNat)=id:=by funext x;simp
 rw[this]
 simp
def ar4{α eR:Type}(f:α->Option eR):∀(l:List α) (r:List eR),Bq f l=some r->r.length=l.length/\∀(i:Nat) (J:α),l[i]? =some J->∃b,r[i]? =some b/\f J=some b:=by
 intro l
 induction l with
 |nil=>intro r a;simp[Bq]at a;subst a;simp
 |cons J l al=>
  intro r a
  simp only[Bq]at a
  cases ce:f J with
  |none=>simp[ce]at a
  |some b=>
   simp only[ce]at a
   cases Z:Bq f l with
   |none=>simp[Z]at a
   |some hH=>
    simp only[Z,Zf]at a
    subst a
    obtain⟨R,U⟩:=al _ Z
    refine⟨by simp[R],λi x ag=> ?_⟩
    cases i with
    |zero=>simp at ag;subst ag;exact⟨b,Zs,ce⟩
    |succ i=>simp at ag;obtain⟨e,I,aqi⟩:=U i x ag;exact⟨e,by simpa using I,aqi⟩
def asJ(Q:c6)(ae:Nat->Prop):∀(n:Nat) (v:Value) (J:H),Bx n v=some J->v=aN Q J/\ch ae J:=by
 intro n
 induction n with
 |zero=>intro v J a;simp[Bx]at a
 |succ n al=>
  have list:∀(l:List Value) (r:List H),Bq (Bx n) l=some r->l=bX Q r/\ew ae r:=by
   intro l r a
   obtain⟨R,U⟩:=ar4 _ l r a
   constructor
   ·rw[pq]
    apply Y1
    intro i
    rw[Zx]
    cases ag:l[i]? with
    |none=>
     have:l.length<=i:=by simpa using ag
     rw[Z2 Zo];rfl
    |some x=>
     obtain⟨b,ai,jQ⟩:=U i x ag
     rw[ai,(al _ _ jQ).1];rfl
   ·rw[ul]
    intro v bA
    obtain⟨i,aM⟩:=ZX.1 bA
    have c2:i<l.length:=by
     have:=(Zc.1 aM).1;omega
    obtain⟨b,ai,jQ⟩:=U i l[i] (Ze c2)
    rw[aM]at ai;simp at ai;subst ai
    exact(al _ _ jQ).2
  intro v J a
  unfold Bx at a
  split at a<;>(try(simp at a;subst a;simp[aN,ch,mS,bX,Lr,ew];done))
  ·simp at a;subst a
   refine⟨by simp only[aN];rw[OT], ?_⟩
   simp only[ch]
   intro x ag
   obtain⟨e,_,rfl⟩:=ZW.1 ag
   exact e.toNat_lt
  ·rename_i t v
   split at a
   ·rename_i fR aC
    simp at a;subst a
    obtain⟨F,g⟩:=al _ _ aC
    exact⟨by simp only[aN,F],g⟩
   ·simp at a
  ·rename_i cs
   split at a
   ·rename_i l aB
    simp at a;subst a
    obtain⟨F,g⟩:=list _ _ aB
    exact⟨by simp only[aN];rw[<-F],g⟩
   ·simp at a
  ·rename_i cs
   split at a
   ·rename_i l aB
    simp at a;subst a
    obtain⟨F,g⟩:=list _ _ aB
    exact⟨by simp only[aN];rw[<-F],g⟩
   ·simp at a
  ·simp at a
def Ni{v:Value}{J:H}(a:DG v=some J):v=aN Q J/\ch ae J:=asJ Q ae _ _ _ a
def qQ(b W i:Nat):(⟨b,W,none⟩:Addr).add i=⟨b,W+i,none⟩:=by unfold Addr.add;split<;>simp_all
def ajZ(Z:de C Q ae h j bi w){b:Nat}(ai:ae b){c:S H}(a:cellsOf C h b=some c):
 ∃cn ty bT aM,w.heap[(Q b).cE]? =some (.cells cn ty (bT,aM))/\∀i v,c.get i=some v->cn[(Q b).ed+i]? =some (aN Q v)/\ch ae v:=by
 unfold cellsOf at a
 split at a
 ·rename_i fZ n st bf
  simp at a;subst a
  obtain⟨cn,ty,bT,aM,R,_,_,aO⟩:=Z.obj b _ bf ai
  exact⟨cn,ty,bT,aM,R,aO⟩
 ·simp at a
def Wh(Z:de C Q ae h j bi w){b:Nat}(ai:ae b){c:S H}(a:cellsOf C h b=some c){W:Nat}{v:H}(b0:c.get W=some v):
 w.cell? ⟨(Q b).cE,(Q b).ed+W,none⟩=some (aN Q v)/\ch ae v:=by
 obtain⟨cn,ty,bT,aM,R,aO⟩:=ajZ Z ai a
 obtain⟨bN,cv⟩:=aO W v b0
 exact⟨by simp[World.cell?,R,bN],cv⟩
def KP(Z:de C Q ae h j bi w){b:Nat}(ai:ae b){c:S H}(a:cellsOf C h b=some c){W n:Nat}{l:List H}(b0:c.ku W n=some l):
 (loadCells ⟨(Q b).cE,(Q b).ed+W,none⟩ n).run C.P w= .ok (bX Q l).toArray w/\ew ae l:=by
 obtain⟨R,U⟩:=S.PN _ _ _ _ b0
 have key:∀i v,l[i]? =some v->w.cell? ⟨(Q b).cE,(Q b).ed+W+i,none⟩=some (aN Q v)/\ch ae v:=by
  intro i v aM
  have c2:i<n:=by have:=(Zc.1 aM).1;omega
  have:=Wh Z ai a (W:=W+i) (v:=v) (by rw[U i c2,aM])
  rwa[<-ZN]at this
 constructor
 ·have aB:=run_loadCells_list (P:=C.P) w ⟨(Q b).cE,(Q b).ed+W,none⟩ (bX Q l) (λY v bA=>by
   rw[qQ]
   rw[pq,Zx]at bA
   cases ag:l[Y]? with
   |none=>simp[ag]at bA
   |some J=>simp[ag]at bA;subst bA;exact(key Y J ag).1)
  have fB:(bX Q l).length=n:=by rw[pq,Zp,R]
  rw[fB]at aB
  exact aB
 ·rw[ul]
  intro v bA
  obtain⟨i,aM⟩:=ZX.1 bA
  exact(key i v aM).2
def avC{t n:Nat}(a:i1 C t=some n):∃i,C.P.info? t=some i/\i.size=n:=by
 unfold i1 at a
 cases aM:C.P.info? t with
 |none=>simp[aM]at a
 |some i=>simp[aM]at a;exact⟨i,rfl,a⟩
def o5{t n:Nat}(a:i1 C t=some n)(w:World):(sizeOf t).run C.P w= .ok n w:=by
 obtain⟨i,aM,rfl⟩:=avC a
 simp[sizeOf,typeInfo,aM]
def DT{t:Nat}{br:H}(a:sM C t=some br)(Q:c6)(ae:Nat->Prop)(w:World):(zeroValue t).run C.P w= .ok (aN Q br) w/\ch ae br:=by
 unfold sM at a
 cases aM:C.P.info? t with
 |none=>simp[aM]at a
 |some i=>
  simp only[aM]at a
  cases ct:i.zero with
  |none=>simp[ct]at a
  |some v=>
   simp only[ct]at a
   obtain⟨F,g⟩:=Ni (Q:=Q) (ae:=ae) a
   exact⟨by simp[zeroValue,typeInfo,aM,ct,F],g⟩
def NG{t:Nat}{b:Bool}(a:Dh C t=some b)(w:World):(isAgg t).run C.P w= .ok b w:=by
 unfold Dh at a
 cases bc:C.P.underlying t with
 |none=>simp[bc]at a
 |some d=>
  simp only[bc]at a
  cases d<;>simp at a<;>subst a<;>simp[isAgg,run_underlying bc]
end
end Go.bg

namespace Go.bg
open Go.RowKit (Below)
section
variable{C:aW}{Q:c6}{ae:Nat->Prop}{h:S ak}{j bi:Nat}{w:World}
def nh{ej:List (Nat×Nat)}{x:Operand}{sY:ki}(a:mJ ej x=some sY)(au:List (Nat×H))(K:S H):kS sY au K=iT ej au K x:=by
 cases x with
 |tmp t=>
  simp only[mJ]at a
  cases aC:et ej t with
  |none=>simp[aC]at a;subst a;simp[kS,iT,aC]
  |some Y=>simp[aC]at a;subst a;simp[kS,iT,aC]
 |const v=>
  simp only[mJ]at a
  cases bA:DG v with
  |none=>simp[bA]at a
  |some J=>simp[bA]at a;subst a;simp[kS,iT,bA]
 |global g=>simp[mJ]at a;subst a;rfl
 |func f=>simp[mJ]at a;subst a;rfl
def alq{ej:List (Nat×Nat)}(au:List (Nat×H))(K:S H):∀{l:List Operand}{cs:List ki}{bk:List H},GR ej l=some cs->Ay au K cs=some bk->
 bk.length=l.length/\∀(i:Nat) x,l[i]? =some x->∃v,bk[i]? =some v/\iT ej au K x=some v:=by
 intro l
 induction l with
 |nil=>intro cs bk R U;simp[GR]at R;subst R;simp[Ay]at U;subst U;simp
 |cons x l al=>
  intro cs bk R U
  simp only[GR]at R
  cases ag:mJ ej x with
  |none=>simp[ag]at R
  |some sY=>
   cases aB:GR ej l with
   |none=>simp[ag,aB]at R
   |some sW=>
    simp[ag,aB]at R;subst R
    simp only[Ay]at U
    cases bA:kS sY au K with
    |none=>simp[bA]at U
    |some v=>
     cases Z:Ay au K sW with
     |none=>simp[bA,Z]at U
     |some r=>
      simp[bA,Z]at U;subst U
      obtain⟨J,b⟩:=al aB Z
      refine⟨by simp[J],λi e I=> ?_⟩
      cases i with
      |zero=>simp at I;subst I;exact⟨v,Zs,by rw[<-nh ag];exact bA⟩
      |succ i=>simp at I;simpa using b i e I
def alo{aw:Operand->Option H}:∀{l:List Operand}{bk:List H},pt aw l=some bk->
 bk.length=l.length/\∀(i:Nat) x,l[i]? =some x->∃v,bk[i]? =some v/\aw x=some v:=by
 intro l
 induction l with
 |nil=>intro bk a;simp[pt]at a;subst a;simp
 |cons x l al=>
  intro bk a
  simp only[pt]at a
  cases ag:aw x with
  |none=>simp[ag]at a
  |some v=>
   cases aB:pt aw l with
   |none=>simp[ag,aB]at a
   |some r=>
    simp[ag,aB]at a;subst a
    obtain⟨J,b⟩:=al aB
    refine⟨by simp[J],λi e I=> ?_⟩
    cases i with
    |zero=>simp at I;subst I;exact⟨v,Zs,ag⟩
    |succ i=>simp at I;simpa using b i e I
def acu{aw:Operand->Value}{ez:Operand->Option H}{l:List Operand}{bk:List H}(cx:i7 Q ae aw ez l)(R:bk.length=l.length)
 (U:∀(i:Nat) x,l[i]? =some x->∃v,bk[i]? =some v/\ez x=some v):l.map aw=bX Q bk/\ew ae bk:=by
 constructor
 ·rw[pq]
  apply Y1
  intro i
  rw[Zx,Zx]
  cases ag:l[i]? with
  |none=>
   have:l.length<=i:=by simpa using ag
   rw[Z2 Zo];rfl
  |some x=>
   obtain⟨v,bA,bt⟩:=U i x ag
   rw[bA]
   simp[(cx x (Zj ag) v bt).1]
 ·rw[ul]
  intro v bA
  obtain⟨i,aM⟩:=ZX.1 bA
  have c2:i<l.length:=by have:=(Zc.1 aM).1;omega
  obtain⟨ad,bc,bt⟩:=U i l[i] (Ze c2)
  rw[aM]at bc;simp at bc;subst bc
  exact(cx _ (List.getElem_mem c2) v bt).2
def wk{aw:Operand->Value}{ez:Operand->Option H}{J:Array Operand}{bk:List H}(cx:i7 Q ae aw ez J.toList)(a:pt ez J.toList=some bk):
 J.map aw=(bX Q bk).toArray/\ew ae bk:=by
 obtain⟨R,U⟩:=alo a
 obtain⟨ar,aO⟩:=acu cx R U
 refine⟨?_,aO⟩
 apply YT
 simp[ar]
def aev(D:IntKind)(n:Int):pe D n=D.wrap n:=by
 cases D<;>simp only[pe]<;>try rfl
 simp only[fo,IntKind.wrap,IntKind.bits,IntKind.signed,Zg,ze,ge_iff_le]
 have bB:((2:Int)^64)=18446744073709551616:=by decide
 have cF:((2:Int)^(64-1))=9223372036854775808:=by decide
 rw[bB,cF]
 by_cases a:n%18446744073709551616<9223372036854775808
 ·rw[Zq a,Zh (by simpa using a)]
 ·rw[Zh a,Zq (by simpa using a)]
@[simp] def ayp(D:IntKind)(n:Int):k1 D n=some (.int D (D.wrap n)):=by simp[k1,aev]
@[simp] def abG(D:IntKind)(n:Int):pB D n=some (.int D n):=by simp[pB]
@[simp] def wn(b:Bool):nL b=some (.bool b):=by cases b<;>rfl
@[simp] def EK{α:Type _}(c:Bool)(J:Option α)(v:α):bR c none J=some v↔c=false/\J=some v:=by cases c<;>simp
@[simp] def Bc(x e:Int):ts x e=decide (x=e):=by
  rw[Yf,Zg]
  cases x<;>cases e
  ·exact⟨λa=>by rw[Zl a],λa=>by cases a;exact Y7 _⟩
  ·exact⟨(λa=>by cases a),(λa=>by cases a)⟩
  ·exact⟨(λa=>by cases a),(λa=>by cases a)⟩
  ·exact⟨λa=>by rw[Zl a],λa=>by cases a;exact Y7 _⟩
@[simp] def sj(x e:Int):yD x e=decide (x<e):=by
  rw[Yf,Zg]
  cases x with
  |ofNat J=>cases e with
   |ofNat b=>show Nat.blt J b=true↔(J:Int)<(b:Int);simp[Nat.blt];omega
   |negSucc b=>show false=true↔(J:Int)<Int.negSucc b;simp;omega
  |negSucc J=>cases e with
   |ofNat b=>show true=true↔Int.negSucc J<(b:Int);simp;omega
   |negSucc b=>show Nat.blt b J=true↔Int.negSucc J<Int.negSucc b;simp[Nat.blt];omega
@[simp] def abW(D e1:IntKind):l8 D e1=decide (D=e1):=by cases D<;>cases e1<;>rfl
@[simp] def ajH(J b:Bool):EE J b=(J==b):=by cases J<;>cases b<;>rfl
def aiQ{op:BinOp}{D:IntKind}{x e:Int}{v:H}(t:TypeId)(a:ly op D x e=some v)(aI:lP op=false):
 (binOp op t (.int D x) (.int D e)).run C.P w= .ok (aN Q v) w/\ch ae v:=by
 cases op<;>simp[ly,lP,binOp,Op.intArith,Op.intDiv,Op.intBits,Op.intCmp]at a aI ⊢ <;>
  first
  |(subst a;simp[aN,ch];done)
  |(obtain⟨R,a⟩:=a;subst a;simp[aN,ch,R];done)
  |(subst a;exact⟨rfl,trivial⟩)
  |(subst a;refine⟨?_,trivial⟩;simp only[aN];congr 1;rw[Yf];simp;done)
def aiX{op:BinOp}{D e1:IntKind}{x e:Int}{v:H}(t:TypeId)(a:Hi op D x e=some v):
 (binOp op t (.int D x) (.int e1 e)).run C.P w= .ok (aN Q v) w/\ch ae v:=by
 unfold Hi at a
 simp only[sj,EK,Zb]at a
 obtain⟨R,a⟩:=a
 cases op<;>simp[binOp,Op.shift,R]at a ⊢
 all_goals(subst a;simp[aN,ch])
def VE{op:BinOp}{x e v:H}(t:TypeId)(a:aA op x e=some v):
 (binOp op t (aN Q x) (aN Q e)).run C.P w= .ok (aN Q v) w/\ch ae v/\∃D J e1 b,x= .int D J/\e= .int e1 b:=by
 unfold aA at a
 split at a
 ·rename_i D J e1 b
  simp only[aN]
  by_cases aI:lP op=true
  ·simp only[aI,e2]at a
   obtain⟨bB,cF⟩:=aiX (C:=C) (Q:=Q) (ae:=ae) (w:=w) (e1:=e1) t a
   exact⟨bB,cF,_,_,_,_,rfl,rfl⟩
  ·have aI:lP op=false:=by simpa using aI
   simp only[aI,jK,abW,eY,Zg]at a
   obtain⟨rfl,a⟩:=a
   obtain⟨bB,cF⟩:=aiQ (C:=C) (Q:=Q) (ae:=ae) (w:=w) t a aI
   exact⟨bB,cF,_,_,_,_,rfl,rfl⟩
 ·simp at a
def Ko(Q:c6)(ae:Nat->Prop)(P:Program)(w:World)(s:Sem Next)(v:H):Prop:=s.run P w= .ok (.value (aN Q v)) w/\ch ae v
def nJ{P:Program}{s:Sem Value}{v:H}(a:s.run P w= .ok (aN Q v) w/\ch ae v):Ko Q ae P w (do pure (.value (<-s))) v:=by
 refine⟨?_,a.2⟩
 simp[a.1]
def VG(Z:de C Q ae h j bi w){t:TypeId}(be:Dh C t=some false){J v:H}(aC:ch ae J)(a:am C h J=some v):
 (Instr.loadAt t (aN Q J)).run C.P w= .ok (aN Q v) w/\ch ae v:=by
 unfold am at a
 split at a
 ·rename_i b W
  split at a
  ·rename_i c az
   obtain⟨R,U⟩:=Wh Z aC az a
   refine⟨?_,U⟩
   simp[Instr.loadAt,Instr.sureAddr,aN,loadVar,NG be,R]
  ·simp at a
 ·simp at a
def VH(Z:de C Q ae h j bi w){t:TypeId}{n:Nat}(be:Dh C t=some true)(aI:i1 C t=some n){J v:H}(aC:ch ae J)(a:b6 C h n J=some v):
 (Instr.loadAt t (aN Q J)).run C.P w= .ok (aN Q v) w/\ch ae v:=by
 unfold b6 at a
 split at a
 ·rename_i b W
  split at a
  ·rename_i c az
   split at a
   ·rename_i l aB
    simp at a;subst a
    obtain⟨R,U⟩:=KP Z aC az aB
    refine⟨?_,U⟩
    simp[Instr.loadAt,Instr.sureAddr,aN,loadVar,NG be,o5 aI,R]
   ·simp at a
  ·simp at a
 ·simp at a
def VI(Z:de C Q ae h j bi w){t:TypeId}{J v:H}(aC:ch ae J)(a:lz C h t J=some v):
 (Instr.loadAt t (aN Q J)).run C.P w= .ok (aN Q v) w/\ch ae v:=by
 unfold lz at a
 split at a
 ·rename_i s R U;exact VH Z R U aC a
 ·rename_i R;exact VG Z R aC a
 ·simp at a
def lh{J b:Nat}(a:Nat.blt J b=true):J<b:=by simp[Nat.blt]at a;omega
def jb{J b:Nat}(a:Nat.ble J b=true):J<=b:=by simpa using a
def Dw{v:H}{n:Nat}(a:m1 v=some n):∃D,v= .int D (Int.ofNat n):=by
 unfold m1 at a
 split at a
 ·rename_i D br
  split at a
  ·simp at a;subst a;exact⟨D,rfl⟩
  ·simp at a
 ·simp at a
def alw{s:TypeId}{jO:Array Field}{f br:Nat}{rV:Field}(bc:C.P.underlying s=some (.struct jO))(ce:jO.toList[f]? =some rV)
 (ct:i1 C rV.type=some br)(ln:br≠0){J v:H}(aC:ch ae J)(a:aZ rV.offset J=some v):
 (Instr.fieldAt s (aN Q J) f).run C.P w= .ok (aN Q v) w/\ch ae v:=by
 unfold aZ at a
 split at a
 ·rename_i b W
  simp at a;subst a
  have qc:jO[f]? =some rV:=by rw[<-ce];simp
  refine⟨?_,aC⟩
  simp[Instr.fieldAt,run_underlying bc,qc,Instr.sureAddr,aN,fieldPlace,o5 ct,ln,qQ,ZN]
 ·simp at a
def aqE{t:TypeId}{n bl i:Nat}{eg:TypeId}(bc:C.P.underlying t=some (.array n eg))(ct:i1 C eg=some bl)
 {J v:H}{D:IntKind}(aC:ch ae J)(a:Kl n bl J i=some v):
 (Instr.indexAt t (aN Q J) (.int D (Int.ofNat i))).run C.P w= .ok (aN Q v) w/\ch ae v:=by
 unfold Kl at a
 split at a
 ·rename_i b W
  simp only[eY,Zf]at a
  obtain⟨R,rfl⟩:=a
  have c2:i<n:=lh R
  refine⟨?_,aC⟩
  simp[Instr.indexAt,asIntOf,run_underlying bc,Instr.sureAddr,aN,o5 ct,c2,qQ,ZN]
 ·simp at a
def aqH{t:TypeId}{bl i:Nat}{eg:TypeId}(bc:C.P.underlying t=some (.slice eg))(ct:i1 C eg=some bl)
 {J v:H}{D:IntKind}(aC:ch ae J)(a:BT bl J i=some v):
 (Instr.indexAt t (aN Q J) (.int D (Int.ofNat i))).run C.P w= .ok (aN Q v) w/\ch ae v:=by
 unfold BT at a
 split at a
 ·rename_i b W n _
  simp only[eY,Zf]at a
  obtain⟨R,rfl⟩:=a
  have c2:i<n:=lh R
  refine⟨?_,aC⟩
  simp[Instr.indexAt,asIntOf,run_underlying bc,aN,o5 ct,c2,qQ,ZN]
 ·rename_i b W n _
  simp only[eY,Zf]at a
  obtain⟨R,rfl⟩:=a
  have c2:i<n:=lh R
  refine⟨?_,aC⟩
  simp[Instr.indexAt,asIntOf,run_underlying bc,aN,o5 ct,c2,qQ,ZN]
 ·simp at a
def awB{J v:H}(aC:ch ae J)(a:cf J=some v):v=J/\(∀oper:Oper,∀aw:Operand->Value,∀x,oper.op= .nilCheck x->aw x=aN Q J->(execOp aw oper).run C.P w= .ok (.value (aN Q v)) w):=by
 unfold cf at a
 split at a
 ·simp at a;subst a
  refine⟨rfl,λoper aw x bf ag=> ?_⟩
  simp[execOp,bf,ag,aN]
 ·split at a
  ·simp at a;subst a
   refine⟨rfl,λoper aw x bf ag=> ?_⟩
   simp[execOp,bf,ag,aN,mS]
  ·simp at a;subst a
   refine⟨rfl,λoper aw x bf ag=> ?_⟩
   simp[execOp,bf,ag,aN,mS]
  ·simp at a
 ·simp at a;subst a
  refine⟨rfl,λoper aw x bf ag=> ?_⟩
  simp[execOp,bf,ag,aN]
 ·simp at a
def awA{i:Nat}{J v:H}(aC:ch ae J)(a:cN i J=some v):(Instr.extract (aN Q J) i).run C.P w= .ok (aN Q v) w/\ch ae v:=by
 unfold cN at a
 split at a
 ·rename_i bk
  rw[pE]at a
  refine⟨?_,(ul ae bk).1 aC v (Zj a)⟩
  simp[Instr.extract,aN,pq,a]
 ·simp at a
def WZ{aw:Operand->Value}{ez:Operand->Option H}:∀{l:List (Nat×Operand)}{dl:List (Nat×H)},i7 Q ae aw ez (l.map (·.2))->xY ez l=some dl->
 l.map (λx=>(x.1,aw x.2))=dl.map (λx=>(x.1,aN Q x.2))/\∀x∈dl,ch ae x.2:=by
 intro l
 induction l with
 |nil=>intro dl _ a;simp[xY]at a;subst a;simp
 |cons J l al=>
  intro dl cx a
  obtain⟨i,x⟩:=J
  simp only[xY]at a
  cases ag:ez x with
  |none=>simp[ag]at a
  |some v=>
   cases aB:xY ez l with
   |none=>simp[ag,aB]at a
   |some r=>
    simp[ag,aB]at a;subst a
    obtain⟨J,b⟩:=al (λe I=>cx e (by simp at I ⊢;exact .inr I)) aB
    obtain⟨c,d⟩:=cx x Zs v ag
    refine⟨by simp[J,c],λe I=> ?_⟩
    cases I with
    |head=>exact d
    |tail _ I=>exact b e I
def t8(Q:c6)(v:H):(aN Q v).cells=(bX Q v.cells).toArray:=by
 cases v<;>simp[aN,Value.cells,H.cells,bX]
def ua{v:H}(a:ch ae v):ew ae v.cells:=by
 cases v with
 |agg cs=>exact a
 |_=>exact⟨a,trivial⟩
def alJ(Q:c6):∀(bk:List H) (cs:List H) (off D:Nat),
 ((bX Q bk).zipIdx D).foldl (λ(cs:Array Value) (x:Value×Nat)=>cs.setIfInBounds (off+x.2) x.1) (bX Q cs).toArray=(bX Q (lW cs (off+D) bk)).toArray:=by
 intro bk
 induction bk with
 |nil=>intro cs off D;rfl
 |cons v bk al=>
  intro cs off D
  simp only[bX,List.zipIdx_cons,List.foldl_cons,lW]
  have:(bX Q cs).toArray.setIfInBounds (off+D) (aN Q v)=(bX Q (cs.set (off+D) v)).toArray:=by
   apply YT
   simp[pq,List.map_set]
  rw[this,al]
  rfl
def amz{cs:List H}{i:Nat}{v:H}(a:ew ae cs)(bA:ch ae v):ew ae (cs.set i v):=by
 rw[ul]at a ⊢
 intro x ag
 rcases List.mem_or_eq_of_mem_set ag with cD|cD
 ·exact a x cD
 ·rw[cD];exact bA
def amA:∀(bk cs:List H) (W:Nat),ew ae cs->ew ae bk->ew ae (lW cs W bk):=by
 intro bk
 induction bk with
 |nil=>intro cs W a _;exact a
 |cons v bk al=>intro cs W a bA;exact al _ _ (amz a bA.1) bA.2
def Pt{Gv JK:Nat->Option (Nat×Nat)}(ay:∀i x,Gv i=some x->JK i=some x):∀(dl:List (Nat×H)) (cs r:List H),ew ae cs->(∀x∈dl,ch ae x.2)->
 AB Gv cs dl=some r->Instr.fill JK (bX Q cs).toArray (dl.map λx=>(x.1,aN Q x.2))=some (bX Q r).toArray/\ew ae r:=by
 intro dl
 induction dl with
 |nil=>intro cs r a _ ce;simp[AB]at ce;subst ce;exact⟨rfl,a⟩
 |cons p dl al=>
  intro cs r a b0 ce
  obtain⟨i,v⟩:=p
  simp only[AB]at ce
  cases sa:Gv i with
  |none=>simp[sa]at ce
  |some x=>
   obtain⟨off,size⟩:=x
   simp only[sa,eY,Zn]at ce
   obtain⟨⟨R,U⟩,ce⟩:=ce
   have R:v.cells.length=size:=Zl R
   have U:off+size<=cs.length:=jb U
   have aoy:ch ae v:=b0 (i,v) Zs
   obtain⟨J,b⟩:=al (lW cs off v.cells) r (amA _ _ _ a (ua aoy)) (λx ag=>b0 x (by simp[ag])) ce
   refine⟨?_,b⟩
   simp only[Yb,Instr.fill,ay _ _ sa,t8]
   have fB:(bX Q v.cells).length=size:=by rw[pq,Zp,R]
   have uK:(bX Q cs).length=cs.length:=by rw[pq,Zp]
   rw[Zh]
   ·rw[<-J]
    congr 1
    have:=alJ Q v.cells cs off 0
    simp
    simpa using this
   ·simp[fB,uK];omega
def auv{α eR:Type}(P:Program)(w:World)(f:α->Sem eR)(g:α->eR):∀(l:List α),(∀J∈l,(f J).run P w= .ok (g J) w)->(l.mapM f).run P w= .ok (l.map g) w:=by
 intro l
 induction l with
 |nil=>intro _;simp
 |cons J l al=>intro a;simp[Y3,a J Zs,al (λb ai=>a b (by simp[ai]))]
def avz{jO:List Field}{i:Nat}{x:Nat×Nat}(a:S1 C jO i=some x):∃f s,jO[i]? =some f/\i1 C f.type=some s/\x=(f.offset,s):=by
 unfold S1 at a
 rw[pE]at a
 split at a
 ·rename_i f ce
  split at a
  ·rename_i s aI
   simp at a
   exact⟨f,s,ce,aI,a.symm⟩
  ·simp at a
 ·simp at a
def Hh{t:TypeId}{cs:List H}{off:Nat}{v:H}(b0:ew ae cs)(a:B7 C t cs off=some v):
 (part t (bX Q cs).toArray off).run C.P w= .ok (aN Q v) w/\ch ae v:=by
 unfold B7 at a
 split at a
 ·rename_i s R U
  simp at a;subst a
  constructor
  ·simp only[part,Sem.run_bind,NG R,Result.andThen_ok,ZD,o5 U,Sem.run_pure,aN,pq]
   congr 2
   apply YT
   simp[List.map_take,List.map_drop,List.take_drop]
  ·simp only[ch]
   rw[ul]at b0 ⊢
   exact λx ag=>b0 x (Y4 (Y5 ag))
 ·rename_i R
  rw[pE]at a
  constructor
  ·simp[part,NG R,pq,a]
  ·exact(ul ae cs).1 b0 v (Zj a)
 ·simp at a
def aiP{t:TypeId}{x i v:H}(ag:ch ae x)(a:KC C t x i=some v):(Instr.index t (aN Q x) (aN Q i)).run C.P w= .ok (aN Q v) w/\ch ae v:=by
 unfold KC at a
 split at a
 ·simp at a
 ·rename_i n aK
  obtain⟨D,rfl⟩:=Dw aK
  split at a
  ·rename_i m eg cs bc
   split at a
   ·rename_i bl ct
    simp only[eY]at a
    obtain⟨R,U⟩:=a
    have c2:=lh R
    obtain⟨ar,aO⟩:=Hh (Q:=Q) (w:=w) ag U
    refine⟨?_,aO⟩
    simp[Instr.index,asIntOf,aN,run_underlying bc,c2,o5 ct,ar]
   ·simp at a
  ·rename_i s bc
   rw[pE]at a
   split at a
   ·rename_i c az
    simp at a;subst a
    refine⟨?_,trivial⟩
    have ai:(fX s)[n]? =some (UInt8.ofNat c):=by
     show(fX s).data[n]? =_
     simp[fX,az]
    have c2:c<256:=ag c (Zj az)
    simp[Instr.index,asIntOf,aN,run_underlying bc,ai,YA c2]
   ·simp at a
  ·simp at a
def ai1{op:UnOp}{x v:H}(a:fz op x=some v):(Op.unary op (aN Q x)).run C.P w= .ok (aN Q v) w/\ch ae v:=by
 unfold fz at a
 split at a
 ·rename_i D n
  simp[ly]at a;subst a
  exact⟨by simp[Op.unary,Op.intArith,aN],trivial⟩
 ·rename_i D n
  simp[ly]at a;subst a
  exact⟨rfl,trivial⟩
 ·simp at a;subst a;exact⟨rfl,trivial⟩
 ·simp at a
def asM:∀{l:List Field},Nj C l=true->∀f∈l,∃s,i1 C f.type=some s:=by
 intro l
 induction l with
 |nil=>intro _ f ce;simp at ce
 |cons J l al=>
  intro a f ce
  simp only[Nj,Zn]at a
  cases ce with
  |head=>cases aI:i1 C J.type with
   |none=>simp[aI]at a
   |some s=>exact⟨s,rfl⟩
  |tail _ ce=>exact al a.2 f ce
def aiJ{t:TypeId}{dl:List (Nat×H)}{v:H}(b0:∀x∈dl,ch ae x.2)(a:Kz C t dl=some v):
 (Instr.build t ((dl.map λx=>(x.1,aN Q x.2)).toArray)).run C.P w= .ok (aN Q v) w/\ch ae v:=by
 unfold Kz at a
 split at a
 ·simp at a
 ·rename_i br ct
  obtain⟨FO,FP⟩:=DT ct Q ae w
  split at a
  ·rename_i jO bc
   simp only[eY]at a
   obtain⟨e4,a⟩:=a
   split at a
   ·rename_i cs hU
    simp at a;subst a
    have bp:(jO.mapM λf=>do pure (f.offset, <-sizeOf f.type):Sem (Array (Nat×Nat))).run C.P w= .ok (jO.toList.map λf=>(f.offset,(i1 C f.type).getD 0)).toArray w:=by
     rw[Array.mapM_eq_mapM_toList,Sem.run_map,auv C.P w _ (λf:Field=>(f.offset,(i1 C f.type).getD 0)) _ (λf ce=>by
      obtain⟨s,aI⟩:=asM e4 f ce
      simp[o5 aI,aI])]
     rfl
    obtain⟨J,b⟩:=Pt (Q:=Q) (JK:=λi=>((jO.toList.map λf=>(f.offset,(i1 C f.type).getD 0)).toArray)[i]?) (λi x ag=>by
     obtain⟨f,s,R,U,rfl⟩:=avz ag
     simp at R
     simp[R,U]) dl br.cells cs (ua FP) b0 hU
    refine⟨?_,b⟩
    simp only[Instr.build,Sem.run_bind,FO,Result.andThen_ok,run_underlying bc,bp,t8,J,aN,Sem.run_pure]
   ·simp at a
  ·rename_i n eg bc
   split at a
   ·rename_i s aI
    split at a
    ·rename_i cs hU
     simp at a;subst a
     obtain⟨J,b⟩:=Pt (Q:=Q) (JK:=λi=>some (i*s,s)) (λ_ _ a=>a) dl br.cells cs (ua FP) b0 hU
     refine⟨?_,b⟩
     simp[Instr.build,FO,run_underlying bc,o5 aI,t8,J,aN]
    ·simp at a
   ·simp at a
  ·simp at a
end
end Go.bg

namespace Go.bg
open Go.RowKit (Below)
section
variable{C:aW}{Q:c6}{ae:Nat->Prop}{h:S ak}{j bi:Nat}{w:World}
def acR{J b:Nat}(aC:J<256)(ai:b<256)(a:UInt8.ofNat J=UInt8.ofNat b):J=b:=by
 have:=congrArg UInt8.toNat a
 simp at this
 omega
def Jy:∀(x e:List Nat),mE x e=true↔x=e
 |[],[]=>by simp[mE]
 |[],_::_=>by simp[mE]
 |_::_,[]=>by simp[mE]
 |J::x,b::e=>by
  simp only[mE,Zn,Jy x e,YD]
  exact⟨λ⟨a,F⟩=>⟨Zl a,F⟩,λ⟨a,F⟩=>⟨by rw[a];exact Y7 _,F⟩⟩
def ar2:∀{x e:List Nat},(∀J∈x,J<256)->(∀J∈e,J<256)->x.map UInt8.ofNat=e.map UInt8.ofNat->x=e:=by
 intro x
 induction x with
 |nil=>intro e _ _ a;cases e with
  |nil=>rfl
  |cons b e=>simp at a
 |cons J x al=>
  intro e ag I a
  cases e with
  |nil=>simp at a
  |cons b e=>
   simp only[Yb,YD]at a
   rw[acR (ag J Zs) (I b Zs) a.1,al (λc az=>ag c (by simp[az])) (λc az=>I c (by simp[az])) a.2]
def KL(s:List Nat):(fX s).toList=s.map UInt8.ofNat:=by
 rw[ByteArray.toList_eq];simp[fX]
def S0{x e:List Nat}(ag:∀J∈x,J<256)(I:∀J∈e,J<256):((fX x).toList==(fX e).toList)=mE x e:=by
 rw[Yf,Jy,YU,KL,KL]
 exact⟨ar2 ag I,λa=>by rw[a]⟩
def ad0:∀{x e:List Nat},(∀J∈x,J<256)->(∀J∈e,J<256)->Op.bytesLess (x.map UInt8.ofNat) (e.map UInt8.ofNat)=Bt x e
 |[],[],_,_=>rfl
 |[],_::_,_,_=>rfl
 |_::_,[],_,_=>rfl
 |J::x,b::e,ag,I=>by
  have aC:=ag J Zs
  have ai:=I b Zs
  have al:=ad0 (λc az=>ag c (Zu _ az)) (λc az=>I c (Zu _ az))
  simp only[Yb,Op.bytesLess,Bt,al]
  have bB:decide (UInt8.ofNat J<UInt8.ofNat b)=Nat.blt J b:=by
   rw[Yf,Zg,UInt8.lt_iff_toNat_lt]
   simp[Nat.blt,YA aC,YA ai];omega
  have cF:(UInt8.ofNat J==UInt8.ofNat b)=Nat.beq J b:=by
   rw[Yf,YU]
   exact⟨λa=>by rw[acR aC ai a];exact Y7 _,λa=>by rw[Zl a]⟩
  rw[bB,cF]
def Nz(Z:de C Q ae h j bi w){b W:Nat}(ai:ae b)(a:Bo C h b W=true):
 ∃c n st cn ty bT aM,aa C h b=some (.cells c n st)/\W<n/\w.heap[(Q b).cE]? =some (.cells cn ty (bT,aM))/\Em st n (Q b) cn.size bT aM/\(Q b).ed+n<=cn.size/\st≠ .jV:=by
 unfold Bo at a
 split at a
 ·simp at a
 ·rename_i c n st j6 bf
  obtain⟨cn,ty,bT,aM,R,U,ar,_⟩:=Z.obj b _ bf ai
  exact⟨c,n,st,cn,ty,bT,aM,bf,lh (by simpa using a),R,U,ar,λF=>(by subst F;first|exact j6 _ bf|exact j6 _ rfl|exact j6 rfl|exact j6 bf|simp_all)⟩
 ·simp at a
def ac2{b W:Nat}(a:Gt C h b W=true):Bo C h b W=true/\C.a7<=b/\∃c n,aa C h b=some (.cells c n .own):=by
 unfold Gt at a
 unfold Bo
 split at a
 ·rename_i c n bf
  simp only[bf,Zn]at a ⊢
  exact⟨a.2,jb a.1,c,n,rfl⟩
 ·simp at a
def SG{r:Nat}{cn:Array Value}{ty:TypeId}{f:Nat×Nat}(a:w.heap[r]? =some (.cells cn ty f)):w.shape? r=some (ty,cn.size):=by
 simp[World.shape?,a]
def adJ{P:Program}{p an:Nat}{x e:Nat}{bd cg:Array Value}{t1 d3:TypeId}{eh R c5 U:Nat}(dI:p≠an)
 (bB:w.heap[p]? =some (.cells bd t1 (eh,R)))(cF:w.heap[an]? =some (.cells cg d3 (c5,U)))(eM:R<=eh)(im:x<bd.size)(hk:e<cg.size)(e3:U<=c5\/cg.size<=c5):
 (sameAddr ⟨p,x,none⟩ ⟨an,e,none⟩).run P w= .ok false w/\(sameAddr ⟨an,e,none⟩ ⟨p,x,none⟩).run P w= .ok false w:=by
 have b3:w.frozen? ⟨p,x,none⟩=false:=by simp[World.frozen?,bB];omega
 have b2:w.frozen? ⟨an,e,none⟩=false:=by simp[World.frozen?,cF];omega
 have cQ:w.frozen? ⟨p,bd.size,none⟩=false:=by simp[World.frozen?,bB];omega
 have iZ:=SG bB
 have kH:=SG cF
 have fW:bd.size≠0:=Zo
 have fw:cg.size≠0:=Zo
 have ao0:an≠p:=λF=>dI F.symm
 constructor
 ·simp[sameAddr,dI,b3,b2,cQ,noView,viewAt,iZ,kH,mayBeOne,stringish,fw]
 ·simp[sameAddr,ao0,b3,b2,cQ,noView,viewAt,iZ,kH,mayBeOne,stringish,fW,fw]
def atE(Z:de C Q ae h j bi w){b W dR o':Nat}{r:Bool}(ai:ae b)(jQ:ae dR)(a:ptrEq C h b W dR o'=some r):
 (sameAddr ⟨(Q b).cE,(Q b).ed+W,none⟩ ⟨(Q dR).cE,(Q dR).ed+o',none⟩).run C.P w= .ok r w:=by
 unfold ptrEq at a
 rw[hB]at a
 split at a
 ·rename_i F
  subst F
  simp at a;subst a
  simp only[sameAddr,Yk,ZD,Sem.run_pure]
  congr 1
  rw[Yf,YU]
  constructor
  ·intro a;simp at a;rw[a];exact Y7 _
  ·intro a;rw[Zl a]
 ·rename_i dI
  simp only[eY,YV,Zn,Zf]at a
  obtain⟨a,rfl⟩:=a
  rcases a with ⟨R,U⟩|⟨R,U⟩
  ·obtain⟨ar,aO,c,n,bN⟩:=ac2 R
   obtain⟨dk,aL,SV,bd,t1,eh,vJ,bB,im,N6,fW,bZ,_⟩:=Nz Z ai ar
   obtain⟨dB,a6,vA,cg,d3,c5,GU,cF,hk,N7,fw,cw,Sk⟩:=Nz Z jQ U
   have df:SV= .own:=by rw[bN]at bB;cases bB;rfl
   subst df
   have Qm:(Q b).cE≠(Q dR).cE:=by
    intro F
    rcases(Z.sep b dR _ _ bB cF ai jQ dI aO F).1 with ⟨_,_,_,_,an,_⟩|⟨_,_,_,_,_,an,_⟩|⟨_,_,_,_,_,_,an,_⟩<;>cases an
   exact(adJ Qm N6 N7 (Y6 fW.symm) Zo Zo (fw.free Sk)).1
  ·obtain⟨ar,aO,c,n,bN⟩:=ac2 R
   obtain⟨dk,aL,SV,bd,t1,eh,vJ,bB,im,N6,fW,bZ,_⟩:=Nz Z jQ ar
   obtain⟨dB,a6,vA,cg,d3,c5,GU,cF,hk,N7,fw,cw,Sk⟩:=Nz Z ai U
   have df:SV= .own:=by rw[bN]at bB;cases bB;rfl
   subst df
   have Qm:(Q dR).cE≠(Q b).cE:=by
    intro F
    rcases(Z.sep dR b _ _ bB cF jQ ai (λan=>dI an.symm) aO F).1 with ⟨_,_,_,_,an,_⟩|⟨_,_,_,_,_,an,_⟩|⟨_,_,_,_,_,_,an,_⟩<;>cases an
   exact(adJ Qm N6 N7 (Y6 fW.symm) Zo Zo (fw.free Sk)).2
def aiM{eq:Nat->H->H->Option Bool}{d:Nat}(eX:∀t x e r,ch ae x->ch ae e->eq t x e=some r->(Op.equalIn d t (aN Q x) (aN Q e)).run C.P w= .ok r w):
 ∀(jx:List Field) (cm nB:List H) (r:Bool),ew ae cm->ew ae nB->B6 C eq jx cm nB=some r->(Op.eqFields d (bX Q cm).toArray (bX Q nB).toArray jx).run C.P w= .ok r w:=by
 intro jx
 induction jx with
 |nil=>intro cm nB r _ _ a;simp[B6]at a;subst a;simp[Op.eqFields]
 |cons f jx al=>
  intro cm nB r ag I a
  simp only[B6,EK,beq_eq_false_iff_ne]at a
  obtain⟨aK,a⟩:=a
  split at a
  ·rename_i J b aC ai
   obtain⟨bd,cg⟩:=Hh (Q:=Q) (w:=w) ag aC
   obtain⟨cZ,dO⟩:=Hh (Q:=Q) (w:=w) I ai
   split at a
   ·rename_i F
    simp only[Op.eqFields,aK,ne_eq,ZG,ZD,Sem.run_bind,bd,cZ,eX _ _ _ _ cg dO F,Result.andThen_ok,Yi,Zv,ZB]
    exact al cm nB r ag I a
   ·rename_i F
    simp at a;subst a
    simp only[Op.eqFields,aK,ne_eq,ZG,ZD,Sem.run_bind,bd,cZ,eX _ _ _ _ cg dO F,Result.andThen_ok,Yh,Sem.run_pure]
   ·simp at a
  ·simp at a
def OD(Z:de C Q ae h j bi w):∀(d lj:Nat) (t:Nat) (x e:H) (r:Bool),d<=lj->ch ae x->ch ae e->jX C h d t x e=some r->
 (Op.equalIn lj t (aN Q x) (aN Q e)).run C.P w= .ok r w:=by
 intro d
 induction d with
 |zero=>intro lj t x e r _ _ _ a;simp[jX]at a
 |succ d al=>
  intro lj t x e r aH fx uo a
  obtain⟨lj,rfl⟩:∃F,lj=F+1:=⟨lj-1,Zo⟩
  unfold jX at a
  split at a
  ·rename_i bc;simp at a;subst a;simp[Op.equalIn,run_underlying bc,aN]
  ·rename_i bc;simp at a;obtain⟨rfl,rfl⟩:=a;simp[Op.equalIn,run_underlying bc,aN];rfl
  ·rename_i J b bc
   simp at a;subst a
   rw[aN,aN,run_equalIn_string w lj t _ _ bc,S0 fx uo]
  ·rename_i bc;simp at a;subst a;simp[Op.equalIn,run_underlying bc,aN]
  ·rename_i bc;simp at a;subst a;simp[Op.equalIn,run_underlying bc,aN]
  ·rename_i bc;simp at a;subst a;simp[Op.equalIn,run_underlying bc,aN]
  ·rename_i F b W dR o' bc
   split at a
   ·rename_i s aI
    rw[hB]at a
    split at a
    ·simp at a
    ·rename_i My
     have:=atE Z fx uo a
     simp[Op.equalIn,run_underlying bc,aN,o5 aI,My,this]
   ·simp at a
  ·rename_i bc;simp at a;subst a;simp[Op.equalIn,run_underlying bc,aN]
  ·rename_i bc;simp at a;subst a;simp[Op.equalIn,run_underlying bc,aN]
  ·rename_i bc;simp at a;subst a;simp[Op.equalIn,run_underlying bc,aN]
  ·rename_i J9 NV ty NW bc
   rw[hB]at a
   split at a
   ·rename_i F
    subst F
    split at a
    ·rename_i i aM
     simp only[eY]at a
     obtain⟨az,a⟩:=a
     have:=al lj J9 NV NW r Zo fx uo a
     simp[Op.equalIn,run_underlying bc,aN,typeInfo,aM,az,this]
    ·simp at a
   ·rename_i F
    simp at a;subst a
    simp[Op.equalIn,run_underlying bc,aN,F]
  all_goals first
   |(rename_i bc;simp at a;subst a;simp[Op.equalIn,run_underlying bc,aN];done)
   |skip
  ·rename_i jO cm nB bc
   simp only[EK]at a
   obtain⟨ay,a⟩:=a
   have ce:C.P.fieldsOf t=jO:=by simp[Program.fieldsOf,bc]
   rw[aN,aN,run_equalIn_struct w lj t _ _ (by rw[ce];exact bc) ay,ce]
   exact aiM (λt x e r fx uo a=>al lj t x e r Zo fx uo a) _ _ _ _ fx uo a
  ·simp at a
end
end Go.bg

