/- Part of the proof of the last text; no conditions -/
import GoSem.Step
import Derived.Below
import Derived.ChangeKeysEq
import Derived.Laws.IdiomCopy
import Derived.Laws.Unary
import Derived.KernelRfl
set_option maxHeartbeats 8000000
set_option linter.all false
namespace Go
def Zo{p:Prop}(h:p:=by omega):p:=h
def Za{p q:Prop}(a:p)(b:q):p/\q:=⟨a,b⟩
def Zd{p:Prop}(h:p:=by decide):p:=h
def Zs{p:Prop}(h:p:=by simp):p:=h
def Zx{p:Prop}(h:p:=by simp;omega):p:=h
def Zk{p:Prop}(h:p:=by kernel_rfl):p:=h
def Zb:type_of%@List.getElem?_eq_some_iff:=@List.getElem?_eq_some_iff
def Zc:type_of%@decide_eq_false_iff_not:=@decide_eq_false_iff_not
def Ze:type_of%@Option.some.injEq:=@Option.some.injEq
def Zf:type_of%@List.getElem?_eq_getElem:=@List.getElem?_eq_getElem
def Zg:type_of%@if_neg:=@if_neg
def Zh:type_of%@decide_eq_true_eq:=@decide_eq_true_eq
def Zi:type_of%@Nat.le_refl:=@Nat.le_refl
def Zj:type_of%@Nat.eq_of_beq_eq_true:=@Nat.eq_of_beq_eq_true
def Zl:type_of%@List.mem_of_getElem?:=@List.mem_of_getElem?
def Zn:type_of%@Bool.and_eq_true:=@Bool.and_eq_true
def Zp:type_of%@if_pos:=@if_pos
def Zq:type_of%@List.mem_cons:=@List.mem_cons
def Zr:type_of%@List.length_map:=@List.length_map
def Zt:type_of%@List.mem_cons_of_mem:=@List.mem_cons_of_mem
def Zu:type_of%@Bool.false_eq_true:=@Bool.false_eq_true
def Zv:type_of%@List.mem_cons_self:=@List.mem_cons_self
def Zw:type_of%@List.getElem?_map:=@List.getElem?_map
def Zy:type_of%@List.mem_append:=@List.mem_append
def Zz:type_of%@List.drop_eq_getElem_cons:=@List.drop_eq_getElem_cons
def ZA:type_of%@Nat.le_trans:=@Nat.le_trans
def ZB:type_of%@List.take_of_length_le:=@List.take_of_length_le
def ZC:type_of%@List.map_cons:=@List.map_cons
def ZD:type_of%@if_false:=@if_false
def ZE:type_of%@if_true:=@if_true
def ZF:type_of%@List.getElem?_append_right:=@List.getElem?_append_right
def ZG:type_of%@List.length_cons:=@List.length_cons
def ZH:type_of%@List.drop_eq_nil_of_le:=@List.drop_eq_nil_of_le
def ZI:type_of%@not_false_eq_true:=@not_false_eq_true
def ZJ:type_of%@List.not_mem_nil:=@List.not_mem_nil
def ZK:type_of%@List.mem_map:=@List.mem_map
def ZL:type_of%@List.foldl_cons:=@List.foldl_cons
def ZM:type_of%@Array.getElem?_eq_some_iff:=@Array.getElem?_eq_some_iff
def ZN:type_of%@Nat.lt_of_lt_of_le:=@Nat.lt_of_lt_of_le
def ZO:type_of%@Array.getElem?_toList:=@Array.getElem?_toList
def ZP:type_of%@List.length_append:=@List.length_append
def ZQ:type_of%@Nat.zero_add:=@Nat.zero_add
def ZR:type_of%@Option.map_some:=@Option.map_some
def ZS:type_of%@Nat.add_zero:=@Nat.add_zero
def ZT:type_of%@List.getElem?_eq_none:=@List.getElem?_eq_none
def ZU:type_of%@Option.bind_some:=@Option.bind_some
def ZV:type_of%@Option.bind_eq_some_iff:=@Option.bind_eq_some_iff
def ZW:type_of%@List.mem_iff_getElem?:=@List.mem_iff_getElem?
def ZX:type_of%@Option.isSome_none:=@Option.isSome_none
def ZY:type_of%@List.length_nil:=@List.length_nil
def ZZ:type_of%@List.getElem?_cons_succ:=@List.getElem?_cons_succ
def Z0:type_of%@Nat.add_assoc:=@Nat.add_assoc
def Z1:type_of%@List.getElem?_drop:=@List.getElem?_drop
def Z2:type_of%@List.getElem?_append_left:=@List.getElem?_append_left
def Z3:type_of%@Nat.add_mul:=@Nat.add_mul
def Z4:type_of%@List.append_nil:=@List.append_nil
def Z5:type_of%@Option.isSome_some:=@Option.isSome_some
def Z6:type_of%@Nat.le_succ:=@Nat.le_succ
def Z7:type_of%@Bool.eq_iff_iff:=@Bool.eq_iff_iff
def Z8:type_of%@List.getElem?_set:=@List.getElem?_set
def Z9:type_of%@List.getElem?_cons_zero:=@List.getElem?_cons_zero
def Ya:type_of%@List.drop_zero:=@List.drop_zero
def Yb:type_of%@Int.eq_ofNat_of_zero_le:=@Int.eq_ofNat_of_zero_le
def Yc:type_of%@Nat.mul_one:=@Nat.mul_one
def Yd:type_of%@List.eq_nil_of_length_eq_zero:=@List.eq_nil_of_length_eq_zero
def Ye:type_of%@and_true:=@and_true
def Yf:type_of%@Option.map_eq_some_iff:=@Option.map_eq_some_iff
def Yg:type_of%@List.set_cons_zero:=@List.set_cons_zero
def Yh:type_of%@List.take_succ_cons:=@List.take_succ_cons
def Yi:type_of%@List.flatten_cons:=@List.flatten_cons
def Yj:type_of%@List.set_cons_succ:=@List.set_cons_succ
def Yk:type_of%@List.map_map:=@List.map_map
def Yl:type_of%@decide_false:=@decide_false
def Ym:type_of%@List.length_take:=@List.length_take
def Yn:type_of%@or_false:=@or_false
def Yo:type_of%@List.length_pos_iff:=@List.length_pos_iff
def Yp:type_of%@List.drop_succ_cons:=@List.drop_succ_cons
def Yq:type_of%@List.size_toArray:=@List.size_toArray
def Yr:type_of%@List.flatMap_cons:=@List.flatMap_cons
def Ys:type_of%@Bool.not_true:=@Bool.not_true
def Yt:type_of%@Bool.not_false:=@Bool.not_false
def Yu:type_of%@Bool.and_self:=@Bool.and_self
def Yv:type_of%@Option.some.inj:=@Option.some.inj
def Yw:type_of%@List.map_append:=@List.map_append
def Yx:type_of%@Nat.lt_succ_self:=@Nat.lt_succ_self
def Yy:type_of%@List.length_drop:=@List.length_drop
def Yz:type_of%@Array.getElem?_append_left:=@Array.getElem?_append_left
def YA:type_of%@List.take_add_one:=@List.take_add_one
def YB:type_of%@List.map_congr_left:=@List.map_congr_left
def YC:type_of%@List.takeWhile_cons:=@List.takeWhile_cons
def YD:type_of%@decide_true:=@decide_true
def YE:type_of%@Nat.mod_eq_of_lt:=@Nat.mod_eq_of_lt
def YF:type_of%@beq_self_eq_true:=@beq_self_eq_true
def YG:type_of%@List.all_eq_true:=@List.all_eq_true
def YH:type_of%@List.ext_getElem?:=@List.ext_getElem?
def YI:type_of%@Option.bind_assoc:=@Option.bind_assoc
def YJ:type_of%@List.mem_filter:=@List.mem_filter
def YK:type_of%@Prod.mk.injEq:=@Prod.mk.injEq
def YL:type_of%@Option.getD_some:=@Option.getD_some
def YM:type_of%@Nat.eq_of_mul_eq_mul_right:=@Nat.eq_of_mul_eq_mul_right
def YN:type_of%@Bool.and_assoc:=@Bool.and_assoc
def YO:type_of%@List.mem_or_eq_of_mem_set:=@List.mem_or_eq_of_mem_set
def YP:type_of%@List.pairwise_iff_getElem:=@List.pairwise_iff_getElem
def YQ:type_of%@List.nil_append:=@List.nil_append
def YR:type_of%@Int.emod_eq_of_lt:=@Int.emod_eq_of_lt
def YS:type_of%@Array.size_append:=@Array.size_append
def YT:type_of%@Nat.lt_trichotomy:=@Nat.lt_trichotomy
def YU:type_of%@List.getElem?_take_of_lt:=@List.getElem?_take_of_lt
def YV:type_of%@not_or:=@not_or
def YW:type_of%@List.length_eq_zero_iff:=@List.length_eq_zero_iff
def YX:type_of%@Nat.le_mul_of_pos_right:=@Nat.le_mul_of_pos_right
def YY:type_of%@List.take_zero:=@List.take_zero
def YZ:type_of%@Array.ext':=@Array.ext'
def Y0:type_of%@Nat.beq_refl:=@Nat.beq_refl
def Y1:type_of%@beq_iff_eq:=@beq_iff_eq
def Y2:type_of%@Nat.sub_self:=@Nat.sub_self
def Y3:type_of%@Option.map_none:=@Option.map_none
def Y4:type_of%@List.length_set:=@List.length_set
def Y5:type_of%@Bool.and_true:=@Bool.and_true
def Y6:type_of%@Array.getElem?_modify:=@Array.getElem?_modify
def Y7:type_of%@Nat.le_div_iff_mul_le:=@Nat.le_div_iff_mul_le
def Y8:type_of%@Array.mem_of_getElem?:=@Array.mem_of_getElem?
def Y9:type_of%@Nat.add_mul_div_right:=@Nat.add_mul_div_right
def za:type_of%@List.mapM_cons:=@List.mapM_cons
def zb:type_of%@List.mem_of_mem_drop:=@List.mem_of_mem_drop
def zc:type_of%@List.mem_of_mem_take:=@List.mem_of_mem_take
def zd:type_of%@Nat.le_of_eq:=@Nat.le_of_eq
def ze:type_of%@Nat.lt_or_ge:=@Nat.lt_or_ge
def zf:type_of%@Nat.sub_zero:=@Nat.sub_zero
def zg:type_of%@Nat.le_add_right:=@Nat.le_add_right
def zh:type_of%@List.set_nil:=@List.set_nil
def zi:type_of%@List.take_length:=@List.take_length
def zj:type_of%@List.flatten_append:=@List.flatten_append
def zk:type_of%@List.cons.injEq:=@List.cons.injEq
def zl:type_of%@Bool.or_eq_true:=@Bool.or_eq_true
def zm:type_of%@List.find?_cons:=@List.find?_cons
def zn:type_of%@List.find?_eq_none:=@List.find?_eq_none
def zo:type_of%@Nat.add_comm:=@Nat.add_comm
def zp:type_of%@List.drop_drop:=@List.drop_drop
def zq:type_of%@Nat.le_of_lt:=@Nat.le_of_lt
def zr:type_of%@Nat.zero_mul:=@Nat.zero_mul
def zs:type_of%@List.foldl_append:=@List.foldl_append
def zt:type_of%@Nat.not_lt:=@Nat.not_lt
def zu:type_of%@Nat.zero_le:=@Nat.zero_le
def zv:type_of%@Nat.mul_comm:=@Nat.mul_comm
def zw:type_of%@true_and:=@true_and
def zx:type_of%@and_self:=@and_self
def zy{p q:Prop}(a:q)(h:q->p:=by intro h;omega):p:=h a
def zz(a b:Nat)(h:b<=a:=by omega):decide ((a:Int)<(b:Int))=false:=decide_eq_false (by omega)
def zA(a b:Nat)(h:a<b:=by omega):decide ((a:Int)<(b:Int))=true:=decide_eq_true (by omega)
def zB{α:Type}(l:List α)(i:Nat)(h:i<l.length:=by omega):∃x,l[i]? =some x:=⟨_,List.getElem?_eq_getElem h⟩
def zL{p:Prop}(h:p:=by intro x y z a;obtain⟨H,a,_⟩:=a;cases a):p:=h
def zM{p:Prop}(h:p:=by intro x y z a;obtain⟨E,H,a,_⟩:=a;cases a):p:=h
def zN{p:Prop}(h:p:=by simp only[Zh];omega):p:=h
def zO{p:Prop}(h:p:=by simp only[Zc];omega):p:=h
end Go
namespace Go.bp
noncomputable section
inductive R(α:Type) where
 |nil
 |node (v:Option α) (k r:R α)
 deriving Inhabited
universe aa
def bK{α:Type aa}(c:Bool)(t B:α):α:=Bool.rec (motive:=λ_=>α) B t c
def R.get{α:Type}(t:R α):Nat->Option α:=
 R.rec (motive:=λ_=>Nat->Option α) (λ_=>none)
  (λv _ _ h6 pW i=>Nat.rec (motive:=λ_=>Option α) v (λW _=>bK (Nat.beq (Nat.mod W 2) 0) (h6 (Nat.div W 2)) (pW (Nat.div W 2))) i) t
def iQ{α d8:Type}(t:R α)(o:R α->d8):d8:=
 R.rec (motive:=λ_=>d8) (o .nil) (λv k r _ _=>o (.node v k r)) t
def R.qY{α:Type}(f:Nat):R α->Nat->Option α->R α:=
 Nat.rec (motive:=λ_=>R α->Nat->Option α->R α) (λt _ _=>t)
  (λ_ ah t i D=>R.rec (motive:=λ_=>R α)
   (Nat.rec (motive:=λ_=>R α) (.node D .nil .nil) (λW _=>bK (Nat.beq (Nat.mod W 2) 0)
    (iQ (ah .nil (Nat.div W 2) D) λb6=> .node none b6 .nil) (iQ (ah .nil (Nat.div W 2) D) λfy=> .node none .nil fy)) i)
   (λv k r _ _=>Nat.rec (motive:=λ_=>R α) (.node D k r) (λW _=>bK (Nat.beq (Nat.mod W 2) 0)
    (iQ (ah k (Nat.div W 2) D) λb6=> .node v b6 r) (iQ (ah r (Nat.div W 2) D) λfy=> .node v k fy)) i) t) f
def pT{d8:Type}(n:Nat)(o:Nat->d8):d8:=Nat.rec (motive:=λ_=>d8) (o 0) (λm _=>o (Nat.succ m)) n
def O5{d8:Type}(n:Int)(o:Int->d8):d8:=
 Int.rec (motive:=λ_=>d8) (λm=>pT m λm=>o (.ofNat m)) (λm=>pT m λm=>o (.negSucc m)) n
def d1{α:Type}(k:List (Nat×α)):Nat->Option α:=
 List.rec (motive:=λ_=>Nat->Option α) (λ_=>none) (λp _ ah W=>Prod.rec (motive:=λ_=>Option α) (λD b=>bK (Nat.beq D W) (some b) (ah W)) p) k
def R.set{α:Type}(t:R α)(i:Nat)(D:Option α):R α:=R.qY (i+1) t i D
def R.ofList{α:Type}:List α->Nat->R α->R α
 |[],_,t=>t
 |D::k,i,t=>iQ (t.set i (some D)) λdC=>ofList k (i+1) dC
def R.kI{α:Type}(t:R α):Nat->Nat->Option (List α)
 |_,0=>some []
 |V,n+1=>match t.get V with
  |none=>none
  |some D=>match kI t (V+1) n with
   |none=>none
   |some k=>some (D::k)
def qX{α:Type}(k:List α):Nat->Option α:=
 List.rec (motive:=λ_=>Nat->Option α) (λ_=>none) (λD _ ah i=>Nat.rec (motive:=λ_=>Option α) (some D) (λW _=>ah W) i) k
inductive z where
 |bool (b:Bool)
 |int (o:IntKind) (n:Int)
 |str (s:List Nat)
 |ptr (b V:Nat)
 |cM
 |slice (b V len cap:Nat)
 |fh (b V len aO:Nat)
 |aV
 |map (m:Nat)
 |lM
 |func (fn:Fn) (first fm:List z)
 |nilFunc
 |iface (t:Nat) (v:z)
 |nilIface
 |agg (cs:List z)
 |tuple (bj:List z)
 deriving Inhabited
def z.cells:z->List z
 | .agg cs=>cs
 |v=>[v]
def undef:z:= .tuple []
def Ak{α d8:Type}(f:α->Option d8):List α->Option (List d8)
 |[]=>some []
 |D::k=>match f D with
  |none=>none
  |some b=>match Ak f k with
   |none=>none
   |some r=>some (b::r)
def Ar:Nat->Value->Option z
 |0,_=>none
 |n+1,v=>match v with
  | .bool b=>some (.bool b)
  | .int o n=>some (.int o n)
  | .string s=>some (.str (s.data.toList.map (·.toNat)))
  | .pointer none=>some .cM
  | .slice none 0 0=>some .aV
  | .map none=>some .lM
  | .func (.func f) ⟨[]⟩ ⟨[]⟩=>some (.func (.func f) [] [])
  | .nilFunc=>some .nilFunc
  | .iface t v=>match Ar n v with|some D=>some (.iface t D)|none=>none
  | .nilIface=>some .nilIface
  | .agg cs=>match Ak (Ar n) cs.toList with|some k=>some (.agg k)|none=>none
  | .tuple cs=>match Ak (Ar n) cs.toList with|some k=>some (.tuple k)|none=>none
  |_=>none
def CF(v:Value):Option z:=Ar 20 v
inductive Nl where
 |fn (fn:Fn) (fm:List z)
 |collected (r:Nat)
structure he where
 target:Nl
 args:List z
inductive nt where
 |own|marked|grow (eb:List Nat)|jA
 deriving Inhabited
inductive ag where
 |cells (c:R z) (size:Nat) (st:nt)
 |map (b3:List (z×z×Nat)) (fF:Nat)
 |look (b3:List (z×z))
 |nZ (s:List Nat) (pos:Nat)
 |xs (m:Option Nat) (ux:Nat) (seen:List Nat) (adx:Nat)
 |Fo (m ux n:Nat) (cD:List Nat) (st:Nat) (mT:Option Nat)
 |loop (state:LoopState) (pending:Option Code) (fn:Nat) (n am:Nat) (H:R z) (params:List Nat) (assign body:Code) (defers:Nat)
 |deferred (pd:Option (List he))
structure aM where
 P:Program
 G:R ag
 a6:Nat
 gS:Nat->List z->Option z
 oS:Nat
def Z(C:aM)(h:R ag)(b:Nat):Option ag:=
 bK (Nat.blt b C.a6) (C.G.get b) (h.get (Nat.sub b C.a6))
def bn(C:aM)(h:R ag)(b:Nat)(V:Option ag):R ag:=h.set (Nat.sub b C.a6) V
def iB(C:aM)(b:Nat):Bool:=Nat.ble C.a6 b
structure q4 where
 v:z
 recovered:Bool
inductive ku where
 |run|returning|panicking (chain:List q4)
inductive jR where
 |v (W:Nat)
 |t (n:Nat)
 |c (D:z)
inductive jl where
 |Cu (x:jR)
 |pick (c D b:jR)
 |fA (D:jR)
 |Af (n:Nat) (D:jR)
 |off (d:Nat) (x:jR)
 |y6 (n aO:Nat) (x i:jR)
 |y7 (aO:Nat) (x i:jR)
 |CA (x:jR)
 |Ip (op:BinOp) (x e:jR)
 |ext (i:Nat) (x:jR)
 |st (n:Nat) (D v:jR)
 |call (f:Nat) (args:List jR)
 |hC (bT:List (Nat×Nat)) (V:Op)
 |make (bT:List (Nat×Nat)) (V:Op)
 |e2 (bT:List (Nat×Nat)) (V:Op)
structure e4 where
 i:Nat
 g:Option (Nat×Bool)
 op:jl
structure uN where
 sZ:List e4
 Sg:List e4
 e2:Option e4
inductive dy where
 |code (c:Code)
 |inBlock (id:Nat)
 |inLoop (body:Code)
 |inScope (body:Code)
 |FL (ao:Array Oper) (an:List (Nat×z)) (rest:List e4) (fin:List (Nat×Nat))
 |drawn (ao:Array Oper) (base:Nat) (an:List (Nat×z)) (kT:List uN) (fin:List (Nat×Nat))
 |sd (ao:Array Oper) (an:List (Nat×z)) (a:Nat) (rest:List e4) (fin:List (Nat×Nat))
 |xP (ao:Array Oper) (base:Nat) (an:List (Nat×z)) (a:Nat) (kT:List uN) (fin:List (Nat×Nat))
 |inRangeFunc (k:Nat)
 |endRangeFunc (k:Nat)
 |beginRound
structure gh where
 fn:Nat
 n:Nat
 am:Nat
 H:R z
 todo:List dy
 defers:List he
 mode:ku
 deferred:Bool
 roundOf:Option Nat
section ao
variable(C:aM)
def iK(t:Nat):Option Nat:=match C.P.info? t with|some i=>some i.size|none=>none
def se(t:Nat):Option z:=match C.P.info? t with|some i=>(match i.zero with|some v=>CF v|none=>none)|none=>none
def Ca(t:Nat):Option Bool:=match C.P.underlying t with
 |some (.struct _)=>some true|some (.array _ _)=>some true|some _=>some false|none=>none
def nk:List z->Nat->List z->List z
 |cs,_,[]=>cs
 |cs,V,v::k=>nk (cs.set V v) (V+1) k
def yu(FC:Nat->Option (Nat×Nat)):List z->List (Nat×z)->Option (List z)
 |cells,[]=>some cells
 |cells,(i,v)::rest=>match FC i with
  |none=>none
  |some (off,size)=>
   bK (Nat.beq v.cells.length size&&Nat.ble (off+size) cells.length) (yu FC (nk cells off v.cells) rest)<|none
def kp:Nat->List z->List z
 |0,_=>[]
 |n+1,br=>br++kp n br
def wE(aw:Operand->Option z):List (Nat×Operand)->Option (List (Nat×z))
 |[]=>some []
 |(i,x)::k=>match aw x,wE aw k with|some v,some r=>some ((i,v)::r)|_,_=>none
def ph(aw:Operand->Option z):List Operand->Option (List z)
 |[]=>some []
 |x::k=>match aw x,ph aw k with|some v,some r=>some (v::r)|_,_=>none
def SR(jq:List Field)(i:Nat):Option (Nat×Nat):=
 match qX jq i with
 |some f=>(match iK C f.type with|some s=>some (f.offset,s)|none=>none)
 |none=>none
def Mx:List Field->Bool
 |[]=>true
 |f::k=>(match iK C f.type with|some _=>true|none=>false)&&Mx k
def JW(t:Nat)(jy:List (Nat×z)):Option z:=
 match se C t with
 |none=>none
 |some br=>match C.P.underlying t with
  |some (.struct jq)=>bK (Mx C jq.toList) (match yu (SR C jq.toList) br.cells jy with|some cs=>some (.agg cs)|none=>none) none
  |some (.array _ dU)=>(match iK C dU with
   |some s=>(match yu (λi=>some (i*s,s)) br.cells jy with|some cs=>some (.agg cs)|none=>none)
   |none=>none)
  |_=>none
def A5(t:Nat)(cs:List z)(off:Nat):Option z:=
 match Ca C t,iK C t with
 |some true,some s=>some (.agg ((cs.drop off).take s))
 |some false,_=>qX cs off
 |_,_=>none
def l8:List Nat->List Nat->Bool
 |[],[]=>true
 |D::x,b::e=>Nat.beq D b&&l8 x e
 |_,_=>false
def An:List Nat->List Nat->Bool
 |_,[]=>false
 |[],_::_=>true
 |D::x,b::e=>Nat.blt D b||(Nat.beq D b&&An x e)
def ME(h:R ag)(b V:Nat):Bool:=match Z C h b with
 |some (.cells _ n .own)=>iB C b&&Nat.blt V n
 |_=>false
def Fj(h:R ag)(b V:Nat):Bool:=match Z C h b with
 |some (.cells _ _ .jA)=>false
 |some (.cells _ n _)=>Nat.blt V n
 |_=>false
def ptrEq(h:R ag)(b V dT o':Nat):Option Bool:=
 bK (Nat.beq b dT) (some (Nat.beq V o')) (bK (ME C h b V&&Fj C h dT o'||ME C h dT o'&&Fj C h b V) (some false) none)
def Gt(eq:Nat->z->z->Option Bool):List Field->List z->List z->Option Bool
 |[],_,_=>some true
 |f::jE,b9,pN=>
  bK (f.name== "_") none<|
  match A5 C f.type b9 f.offset,A5 C f.type pN f.offset with
  |some D,some b=>(match eq f.type D b with
   |some true=>Gt eq jE b9 pN
   |some false=>some false
   |none=>none)
  |_,_=>none
def ly(o eE:IntKind):Bool:=match o,eE with
 | .i8, .i8=>true| .i16, .i16=>true| .i32, .i32=>true| .i64, .i64=>true
 | .u8, .u8=>true| .u16, .u16=>true| .u32, .u32=>true| .u64, .u64=>true
 |_,_=>false
def Ka(D b:Bool):Bool:=match D,b with|true,true=>true|false,false=>true|_,_=>false
def sT(x e:Int):Bool:=match x,e with
 | .ofNat D, .ofNat b=>Nat.beq D b
 | .negSucc D, .negSucc b=>Nat.beq D b
 |_,_=>false
def xk(x e:Int):Bool:=match x,e with
 | .ofNat D, .ofNat b=>Nat.blt D b
 | .negSucc D, .negSucc b=>Nat.blt b D
 | .negSucc _, .ofNat _=>true
 | .ofNat _, .negSucc _=>false
def lE(h:R ag):Nat->Nat->z->z->Option Bool
 |0,_,_,_=>none
 |d+1,t,x,e=>
  match C.P.underlying t,x,e with
  |some .bool, .bool D, .bool b=>some (Ka D b)
  |some (.int _), .int o D, .int eE b=>bK (ly o eE) (some (sT D b)) none
  |some .string, .str D, .str b=>some (l8 D b)
  |some (.pointer _), .cM, .cM=>some true
  |some (.pointer _), .cM, .ptr _ _=>some false
  |some (.pointer _), .ptr _ _, .cM=>some false
  |some (.pointer B), .ptr b V, .ptr dT o'=>
   (
    match iK C B with
    |some s=>bK (Nat.beq s 0) none (ptrEq C h b V dT o')
    |none=>none)
  |some (.interface _), .nilIface, .nilIface=>some true
  |some (.interface _), .nilIface, .iface _ _=>some false
  |some (.interface _), .iface _ _, .nilIface=>some false
  |some (.interface _), .iface Js Na, .iface ty Nb=>bK (Nat.beq Js ty) (match C.P.info? Js with
   |some i=>bK i.comparable (lE h d Js Na Nb) none
   |none=>none) (some false)
  |some (.slice _), .aV, .aV=>some true
  |some (.slice _), .aV, .slice .. =>some false
  |some (.slice _), .aV, .fh .. =>some false
  |some (.slice _), .slice .., .aV=>some false
  |some (.slice _), .fh .., .aV=>some false
  |some (.map _ _), .lM, .lM=>some true
  |some (.map _ _), .lM, .map _=>some false
  |some (.map _ _), .map _, .lM=>some false
  |some (.func _ _ _), .nilFunc, .nilFunc=>some true
  |some (.func _ _ _), .nilFunc, .func .. =>some false
  |some (.func _ _ _), .func .., .nilFunc=>some false
  |some (.struct jq), .agg b9, .agg pN=>bK (C.P.stoodInHeld t) none (Gt C (lE h d) jq.toList b9 pN)
  |_,_,_=>none
def n4(o:IntKind)(n:Int):Int:=
 match o with
 | .i64=>(λm:Int=>bK (decide (m<9223372036854775808)) m (m-18446744073709551616)) (n%18446744073709551616)
 | .u64=>n%18446744073709551616
 | .u8=>n%256
 |o=>o.wrap n
def oL(o:IntKind)(n:Int):Option z:=O5 n λn=>some (.int o n)
def ki(o:IntKind)(n:Int):Option z:=O5 (n4 o n) λn=>some (.int o n)
def nB(b:Bool):Option z:=bK b (some (.bool true)) (some (.bool false))
def kW(op:BinOp):IntKind->Int->Int->Option z:=
 match op with
 | .add=>λo x e=>ki o (x+e)
 | .sub=>λo x e=>ki o (x-e)
 | .mul=>λo x e=>ki o (x*e)
 | .quo=>λo x e=>bK (sT e 0) none (ki o (x.tdiv e))
 | .rem=>λo x e=>bK (sT e 0) none (oL o (x.tmod e))
 | .and=>λo x e=>ki o ((BitVec.ofInt o.bits x&&& BitVec.ofInt o.bits e).toNat)
 | .or=>λo x e=>ki o ((BitVec.ofInt o.bits x|||BitVec.ofInt o.bits e).toNat)
 | .xor=>λo x e=>ki o ((BitVec.ofInt o.bits x^^^BitVec.ofInt o.bits e).toNat)
 | .andNot=>λo x e=>ki o ((BitVec.ofInt o.bits x&&& ~~~ BitVec.ofInt o.bits e).toNat)
 | .eql=>λ_ x e=>nB (sT x e)
 | .neq=>λ_ x e=>nB (!sT x e)
 | .lss=>λ_ x e=>nB (xk x e)
 | .leq=>λ_ x e=>nB (!xk e x)
 | .gtr=>λ_ x e=>nB (xk e x)
 | .geq=>λ_ x e=>nB (!xk x e)
 |_=>λ_ _ _=>none
def Gw(op:BinOp)(o:IntKind)(x e:Int):Option z:=
 bK (xk e 0) none
 (match op with
 | .shl=>ki o (x*2^(min e.toNat o.bits))
 | .shr=>oL o (x.fdiv (2^(min e.toNat o.bits)))
 |_=>none)
def k2(op:BinOp):Bool:=match op with| .shl| .shr=>true|_=>false
def wl(op:BinOp)(x e:List Nat):Option z:=
 match op with
 | .add=>bK (Nat.ble (x.length+e.length) 1000000000) (some (.str (x++e)))<|none
 | .eql=>nB (l8 x e)
 | .neq=>nB (!l8 x e)
 | .lss=>nB (An x e)
 | .leq=>nB (An x e||l8 x e)
 | .gtr=>nB (!(An x e||l8 x e))
 | .geq=>nB (!An x e)
 |_=>none
def bg(op:BinOp)(x e:z):Option z:=
 match x,e with
 | .int o D, .int eE b=>bK (k2 op) (Gw op o D b) (bK (ly o eE) (kW op o D b) none)
 |_,_=>none
def D7(t:Nat)(sv:Bool)(x e:z):Bool:=match x,e with
 | .nilIface, .nilIface=>sv||(match C.P.underlying t with|some (.interface hW)=>hW.isEmpty|_=>false)
 | .agg _, .agg _=> !C.P.eqGuardType C.P.depth t
 |_,_=>true
def dc(h:R ag)(op:BinOp)(t:Nat)(sv:Bool)(x e:z):Option z:=
 match x,e with
 | .int o D, .int eE b=>bg op (.int o D) (.int eE b)
 | .str D, .str b=>wl op D b
 |x,e=>bK (D7 C t sv x e) (match op with
  | .eql=>(match lE C h 50 t x e with|some b=>nB b|none=>none)
  | .neq=>(match lE C h 50 t x e with|some b=>nB (!b)|none=>none)
  |_=>none) none
def g7(op:UnOp)(x:z):Option z:=
 match op,x with
 | .neg, .int o n=>kW .sub o 0 n
 | .xor, .int o n=>kW .xor o (if o.signed then -1 else o.max) n
 | .not, .bool b=>nB (!b)
 |_,_=>none
def NY(aus dst:Nat)(x:z):Option z:=
 match C.P.underlying aus,C.P.underlying dst,x with
 |some _,some (.int o), .int _ n=>ki o n
 |some _,some .string, .str s=>some (.str s)
 |_,_,_=>none
def nh(v:z):Option Nat:=match v with| .int _ n=>(match n with| .ofNat n=>some n|_=>none)|_=>none
def qh(V:Option z)(m d:Nat):Option Nat:=match V with
 |some v=>(match nh v with|some n=>bK (Nat.ble n m) (some n)<|none|none=>none)
 |none=>some d
def nw(len cap:Nat)(bL aE gR:Option z):Option (Nat×Nat×Nat):=
 match qh gR cap cap with
 |none=>none
 |some m=>match (match aE,gR with
   |none,some _=>none
   |aE,_=>qh aE m len)with
  |none=>none
  |some a=>match qh bL a 0 with
   |none=>none
   |some k=>some (k,a,m)
def Aw(aw:Operand->Option z):Option Operand->Option (Option z)
 |none=>some none
 |some x=>match aw x with|some v=>some (some v)|none=>none
def xJ(h:R ag)(b:Nat):Option Nat:=match Z C h b with|some (.cells _ n (.grow _))=>some n|some (.cells _ n .jA)=>some n|_=>none
def J2(h:R ag)(t:Nat)(x:z)(bL aE gR:Option z):Option z:=
 match C.P.underlying t,x with
 |some .string, .str s=>(match gR with
  |some _=>none
  |none=>(match nw s.length s.length bL aE none with
   |some (k,a,_)=>some (.str ((s.drop k).take (a-k)))
   |none=>none))
 |some (.slice dU), .slice b V len cap=>(match nw len cap bL aE gR,iK C dU with
  |some (k,a,m),some aO=>some (.slice b (bK (Nat.beq m k) (V)<|V+k*aO) (a-k) (m-k))
  |_,_=>none)
 |some (.slice dU), .aV=>(match nw 0 0 bL aE gR,iK C dU with
  |some _,some _=>some .aV
  |_,_=>none)
 |some (.slice dU), .fh b V len aO=>(match iK C dU,xJ C h b with
  |some vW,some n=>bK (Nat.beq aO vW&&Nat.blt 0 aO) ((match nw len ((n-V)/aO) bL aE gR with
    |some (k,a,m)=>(match gR with
     |some _=>some (.slice b (bK (Nat.beq m k) (V)<|V+k*aO) (a-k) (m-k))
     |none=>bK (Nat.blt k ((n-V)/aO)||Nat.beq k 0) (some (.fh b (V+k*aO) (a-k) aO))<|none)
    |none=>none))<|none
  |_,_=>none)
 |some (.array n dU), .ptr b V=>(match nw n n bL aE gR,iK C dU with
  |some (k,a,m),some aO=>some (.slice b (bK (Nat.beq m k) (V)<|V+k*aO) (a-k) (m-k))
  |_,_=>none)
 |_,_=>none
def JZ(t:Nat)(x i:z):Option z:=
 match nh i with
 |none=>none
 |some i=>match C.P.underlying t,x with
  |some (.array n dU), .agg cs=>(match iK C dU with|some aO=>bK (Nat.blt i n) (A5 C dU cs (i*aO))<|none|none=>none)
  |some .string, .str s=>(match qX s i with|some c=>some (.int .u8 (Int.ofNat c))|none=>none)
  |_,_=>none
def cellsOf(h:R ag)(b:Nat):Option (R z):=match Z C h b with
 |some (.cells c _ _)=>some c
 |_=>none
def aR(h:R ag)(D:z):Option z:=
 match D with
 | .ptr b V=>(match cellsOf C h b with
   |some c=>c.get V
   |none=>none)
 |_=>none
def d0(h:R ag)(n:Nat)(D:z):Option z:=
 match D with
 | .ptr b V=>(match cellsOf C h b with
   |some c=>(match c.kI V n with|some k=>some (.agg k)|none=>none)
   |none=>none)
 |_=>none
def pb(h:R ag)(t:Nat)(D:z):Option z:=
 match Ca C t,iK C t with
 |some true,some s=>d0 C h s D
 |some false,_=>aR C h D
 |_,_=>none
def mS:Nat->Nat->z->Bool
 |0,_,_=>false
 |n+1,t,v=>match C.P.underlying t,v with
  |some (.interface _), .iface d x=>(match C.P.info? d with|some i=>i.comparable&&mS n d x|none=>false)
  |some (.interface _), .nilIface=>true
  |some (.interface _),_=>false
  |some (.struct jq), .agg cs=>jq.toList.all λf=>f.name== "_"||(match A5 C f.type cs f.offset with|some p=>mS n f.type p|none=>false)
  |some (.struct _),_=>false
  |some (.array _ _),_=>false
  |some _,_=>true
  |none,_=>false
def oO:Nat->z->z->Bool
 |0,_,_=>false
 |n+1,x,e=>match x,e with
  | .bool D, .bool b=>Ka D b
  | .int o D, .int eE b=>ly o eE&&sT D b
  | .str D, .str b=>l8 D b
  | .ptr b V, .ptr dT o'=>Nat.beq b dT&&Nat.beq V o'
  | .cM, .cM=>true
  | .nilIface, .nilIface=>true
  | .iface t v, .iface dC gp=>Nat.beq t dC&&oO n v gp
  | .agg D, .agg b=>Ad n D b
  |_,_=>false
 where
 Ad (n:Nat):List z->List z->Bool
 |[],[]=>true
 |x::D,e::b=>oO n x e&&Ad n D b
 |_,_=>false
def findKey(h:R ag)(t:Nat)(o:z):List (z×z×Nat)->Nat->Option (Option (Nat×z))
 |[],_=>some none
 |(eE,v,_)::b3,i=>match lE C h 20 t o eE with
  |some true=>some (some (i,v))
  |some false=>findKey h t o b3 (i+1)
  |none=>none
def oR(h:R ag)(t:Nat)(o:z):List (z×z)->Option (Option z)
 |[]=>some none
 |(eE,v)::b3=>match oR h t o b3,lE C h 20 t o eE with
  |some r,some false=>some r
  |some none,some true=>some (some v)
  |_,_=>none
def Fk(r:Option (Option z)):Option (Option (Nat×z)):=match r with
 |some (some v)=>some (some (0,v))
 |some none=>some none
 |none=>none
def J1(h:R ag)(t:Nat)(m o:z)(ok:Bool):Option z:=
 match C.P.underlying t with
 |some (.map ji yr)=>
  (match (match m with
   | .lM=>bK (mS C 20 ji o) (some none) none
   | .map r=>(match Z C h r with|some (.map b3 _)=>bK (mS C 20 ji o) (findKey C h ji o b3 0) none|some (.look b3)=>bK (mS C 20 ji o) (Fk (oR C h ji o b3)) none|_=>none)
   |_=>none)with
  |none=>none
  |some none=>(match se C yr with|some br=>some (bK (ok) (.tuple [br, .bool false])<|br)|none=>none)
  |some (some (_,v))=>some (bK (ok) (.tuple [v, .bool true])<|v))
 |_=>none
def J0(h:R ag)(t:Nat)(x:z):Option z:=
 match C.P.underlying t,x with
 |some .string, .str s=>oL .i64 (Int.ofNat s.length)
 |some (.array n _),_=>some (.int .i64 (Int.ofNat n))
 |some (.pointer b7),_=>(match C.P.underlying b7 with|some (.array n _)=>some (.int .i64 (Int.ofNat n))|_=>none)
 |some (.slice _), .slice _ _ n _=>oL .i64 (Int.ofNat n)
 |some (.slice _), .fh _ _ n _=>oL .i64 (Int.ofNat n)
 |some (.slice _), .aV=>some (.int .i64 0)
 |some (.map _ _), .lM=>some (.int .i64 0)
 |some (.map _ _), .map r=>(match Z C h r with|some (.map b3 _)=>oL .i64 (Int.ofNat b3.length)|_=>none)
 |_,_=>none
def JX(t:Nat)(x:z):Option z:=
 match C.P.underlying t,x with
 |some (.slice _), .slice _ _ _ n=>oL .i64 (Int.ofNat n)
 |some (.slice _), .aV=>some (.int .i64 0)
 |_,_=>none
def oe(gR:Bool):z->List z->Option z
 |v,[]=>some v
 | .int o x, .int _ e::k=>oe gR (.int o (bK (gR) ((bK (xk x e) (e)<|x))<|(bK (xk e x) (e)<|x))) k
 |_,_=>none
def wu:List z->Option (List Nat)
 |[]=>some []
 | .int .u8 (.ofNat n)::k=>(match wu k with|some r=>some (n%256::r)|none=>none)
 |_=>none
def mo(h:R ag)(b V n:Nat):Option (List z):=
 match cellsOf C h b with
 |some c=>c.kI V n
 |none=>bK (Nat.beq n 0) (some []) none
def DM(h:R ag)(x:z):Option z:=
 match x with
 | .aV=>some (.str [])
 | .slice b V len _=>(match mo C h b V len with|some k=>(match wu k with|some s=>some (.str s)|none=>none)|none=>none)
 | .fh b V len _=>(match mo C h b V len with|some k=>(match wu k with|some s=>some (.str s)|none=>none)|none=>none)
 |_=>none
def Rr(t:Nat)(jy:Array (Nat×Operand))(_:R ag)(aw:Operand->Option z):Option z:=
 match wE aw jy.toList with|some db=>JW C t db|none=>none
def qg(V:Operand):Bool:=match V with| .const _=>true|_=>false
def Mb(op:BinOp)(t:Nat)(x e:Operand)(h:R ag)(aw:Operand->Option z):Option z:=
 match aw x,aw e with|some D,some b=>dc C h op t (qg x||qg e) D b|_,_=>none
def Rz(op:UnOp)(x:Operand)(_:R ag)(aw:Operand->Option z):Option z:=
 match aw x with|some D=>g7 op D|none=>none
def IC(s d:Nat)(x:Operand)(h:R ag)(aw:Operand->Option z):Option z:=
 match aw x with
 |some D=>(match NY C s d D with
  |some v=>some v
  |none=>(match C.P.underlying s,C.P.underlying d with
   |some (.slice B),some .string=>(match C.P.underlying B with|some (.int .u8)=>DM C h D|_=>none)
   |_,_=>none))
 |none=>none
def IE(t:Nat)(x:Operand)(_:R ag)(aw:Operand->Option z):Option z:=
 match C.P.underlying t,aw x with
 |some (.interface _),_=>none
 |some _,some v=>some (.iface t v)
 |_,_=>none
def Rv(fn:Fn)(first fm:Array Operand)(_:R ag)(aw:Operand->Option z):Option z:=
 match ph aw first.toList,ph aw fm.toList with
 |some D,some b=>(match fn with| .func f=>some (.func (.func f) D b)|_=>none)
 |_,_=>none
def Ry(t:Nat)(x:Operand)(bL aE gR:Option Operand)(h:R ag)(aw:Operand->Option z):Option z:=
 match aw x,Aw aw bL,Aw aw aE,Aw aw gR with
 |some v,some k,some a,some m=>J2 C h t v k a m
 |_,_,_,_=>none
def ID(t:Nat)(x:Operand)(f:Nat)(_:R ag)(aw:Operand->Option z):Option z:=
 match C.P.underlying t,aw x with
 |some (.struct jq),some (.agg cs)=>(match qX jq.toList f with
  |some rr=>A5 C rr.type cs rr.offset
  |none=>none)
 |_,_=>none
def Rw(t:Nat)(x i:Operand)(_:R ag)(aw:Operand->Option z):Option z:=
 match aw x,aw i with|some D,some b=>JZ C t D b|_,_=>none
def Rx(t:Nat)(m o:Operand)(ok:Bool)(h:R ag)(aw:Operand->Option z):Option z:=
 match aw m,aw o with|some D,some b=>J1 C h t D b ok|_,_=>none
def IB(x:Operand)(ts:Nat)(ok:Bool)(_:R ag)(aw:Operand->Option z):Option z:=
 match C.P.underlying ts,aw x with
 |some (.interface _),_=>none
 |some _,some .nilIface=>bK (ok) ((match se C ts with|some br=>some (.tuple [br, .bool false])|none=>none))<|none
 |some _,some (.iface t v)=>bK (Nat.beq t ts) (some (bK (ok) (.tuple [v, .bool true])<|v))<|bK (ok) ((match se C ts with|some br=>some (.tuple [br, .bool false])|none=>none))<|none
 |_,_=>none
def Rs(b:Builtin)(args:Array Operand)(cS:Array TypeId)(h:R ag)(aw:Operand->Option z):Option z:=
 match b,ph aw args.toList with
 | .len,some [x]=>(match cS.toList with|t::_=>J0 C h t x|_=>none)
 | .cap,some [x]=>(match cS.toList with|t::_=>JX C t x|_=>none)
 | .max,some (x::k)=>oe true x k
 | .min,some (x::k)=>oe false x k
 |_,_=>none
def Rt(c:Call)(h:R ag)(aw:Operand->Option z):Option z:=
 match c with
 |⟨.builtin b,args,cS⟩=>Rs C b args cS h aw
 |_=>none
def abJ:List Nat->Option Nat
 |[]=>none
 |D::k=>match k with|[]=>some D|_=>abJ k
def Ru(_:Operand)(_:R ag)(_:Operand->Option z):Option z:=(λ_:aM=>none) C
def nx(V:Op):aM->R ag->(Operand->Option z)->Option z:=
 match V with
 | .build t jy=>λC=>Rr C t jy
 | .binOp op t x e _=>λC=>Mb C op t x e
 | .unOp op _ x=>λ_=>Rz op x
 | .convert s d x=>λC=>IC C s d x
 | .makeInterface t x=>λC=>IE C t x
 | .makeFunc fn first fm=>λ_=>Rv fn first fm
 | .slice t x bL aE gR=>λC=>Ry C t x bL aE gR
 | .field t x f=>λC=>ID C t x f
 | .index t x i=>λC=>Rw C t x i
 | .lookup t m o ok=>λC=>Rx C t m o ok
 | .typeAssert x _ ts ok=>λC=>IB C x ts ok
 | .entry ej=>λC=>Ru C ej
 | .call c=>λC=>Rt C c
 |_=>λ_ _ _=>none
def AG(c:jl):Bool:=match c with
 | .fA _| .Af _ _=>true
 | .hC _ V=>(match V with
   | .lookup .. | .convert .. | .slice .. | .call _| .binOp .. | .entry _=>true
   |_=>false)
 |_=>false
def Cp(t:Nat)(_:Operand->Option z)(b:Nat):Option (z×ag):=
 match se C t with|some br=>some (.ptr b 0, .cells (R.ofList br.cells 0 .nil) br.cells.length .own)|none=>none
def IK(x:Operand)(aw:Operand->Option z)(b:Nat):Option (z×ag):=
 match aw x with|some v=>some (.ptr b 0, .cells (R.ofList v.cells 0 .nil) v.cells.length .own)|none=>none
def IL(t len:Nat)(jy:Array (Nat×Operand))(aw:Operand->Option z)(b:Nat):Option (z×ag):=
 match C.P.underlying t,wE aw jy.toList with
 |some (.slice dU),some db=>(match iK C dU,se C dU with
  |some s,some br=>bK (Nat.ble (len*s) 16777216&&Nat.beq br.cells.length s) ((match yu (λi=>some (i*s,s)) (kp len br.cells) db with
    |some cs=>some (.slice b 0 len len, .cells (R.ofList cs 0 .nil) cs.length .own)
    |none=>none))<|none
  |_,_=>none)
 |_,_=>none
def pP(V:Op):aM->(Operand->Option z)->Nat->Option (z×ag):=
 match V with
 | .alloc t=>λC=>Cp C t
 | .box _ x=>λ_=>IK x
 | .buildSlice t len jy=>λC=>IL C t len jy
 | .makeMap _ none=>λ_ _ b=>some (.map b, .map [] 0)
 |_=>λ_ _ _=>none
def k4:List Nat->R ag->R ag
 |[],a=>a
 |b::k,a=>k4 k (bn C a b none)
def dP:R z->Nat->List z->R z
 |c,_,[]=>c
 |c,V,v::k=>iQ (c.set V (some v)) λc=>dP c (V+1) k
def nV(v:z):Bool:=match v with| .agg _=>false| .tuple _=>false|_=>true
def iI:List z->Bool
 |[]=>true
 |v::k=>nV v&&iI k
def og(h:R ag)(b V:Nat)(bj:List z):Option (R ag):=
 match Z C h b with
 |some (.cells c n st)=>bK (Nat.ble (V+bj.length) n&&iB C b&&iI bj) ((match st with
   | .own=>iQ (dP c V bj) λc=>iQ (bn C h b (some (.cells c n .own))) λh=>some h
   | .marked=>iQ (dP c V bj) λc=>iQ (bn C h b (some (.cells c n .marked))) λh=>some h
   | .grow eb=>iQ (dP c V bj) λc=>iQ (bn C (k4 C eb h) b (some (.cells c n (.grow [])))) λh=>some h
   |_=>none))<|none
 |_=>none
def kS(h:R ag)(aO:Nat)(x:z):Option (Nat×List z):=
 match x with
 | .aV=>some (0,[])
 | .slice b V len _=>(match mo C h b V (len*aO)with|some k=>some (len,k)|none=>none)
 | .fh b V len _=>(match mo C h b V (len*aO)with|some k=>some (len,k)|none=>none)
 | .str s=>bK (Nat.beq aO 1) (some (s.length,s.map λn=>z.int .u8 (Int.ofNat n))) none
 |_=>none
inductive dI where
 |val (v:z)
 |fl (v:z) (h:R ag) (j:Nat)
 |enter (f:Nat) (args:List z)
 |known (f:Nat) (args:List z) (v:z)
 |round (k:Nat) (args:List z)
 |defer (d:he)
 |recover
 |panic (v:z)
 |fork (k:List (z×R ag))
def mz(C:aM)(h:R ag)(j:Nat)(V:ag)(o:Nat->z):Option dI:=
 pT j λj=>iQ (bn C h j (some V)) λh=>some (.fl (o j) h (j+1))
def sD(h:R ag)(j n aO:Nat)(k:List z):Option dI:=
 bK (Nat.ble n 1048576) (mz C h j (.cells (R.ofList k 0 .nil) k.length (.grow [])) λb=> .fh b 0 n aO)<|none
def Gy(h:R ag)(j:Nat)(b V len aO n:Nat)(k:List z):Option dI:=
 match Z C h b with
 |some (
   .cells c size (.grow eb))=>bK (iB C b)
  (bK (
   Nat.ble (V+(len+n)*aO) size)
   (match og C h b (V+len*aO) k with|some S=>some (.fl (.fh b V (len+n) aO) S j)|none=>none)
   (bK (Nat.ble (len+n) 1048576&&iI k) (bK (Nat.beq (V+len*aO) size&&Nat.beq V 0)
    (iQ (dP c size k) λgA=>mz C (bn C h b (some (.cells c size .jA))) j (.cells gA (size+k.length) (.grow (b::eb))) λdT=> .fh dT 0 (len+n) aO)
    (match c.kI V (len*aO)with
    |some fw=>mz C (bn C (k4 C eb h) b none) j (.cells (R.ofList (fw++k) 0 .nil) (fw++k).length (.grow [])) λdT=> .fh dT 0 (len+n) aO
    |none=>none)) none)) none
 |_=>none
def wo(h:R ag)(j:Nat)(aO n:Nat)(k:List z)(s:z):Option dI:=
 match s with
 | .aV=>sD C h j n aO k
 | .slice b V len cap=>bK (Nat.ble (len+n) cap) ((match og C h b (V+len*aO) k with|some S=>some (.fl (.slice b V (len+n) cap) S j)|none=>none))<|(match mo C h b V (len*aO)with
    |some fw=>sD C h j (len+n) aO (fw++k)
    |none=>none)
 | .fh b V len vW=>bK (Nat.beq vW aO) (Gy C h j b V len aO n k)<|none
 |_=>none
def DO(h:R ag)(aO:Nat)(s:z):Option dI:=
 match s with
 | .aV=>some (.val .aV)
 | .slice b V len cap=>bK (Nat.ble len cap) (some (.val (.slice b V len cap))) none
 | .fh b V len vW=>bK (Nat.beq vW aO) (match xJ C h b with
   |some n=>bK (Nat.ble (V+len*aO) n) (some (.val (.fh b V len vW))) none
   |none=>none) none
 |_=>none
def JY(h:R ag)(j:Nat)(st:Nat)(s:z)(n:Nat):Option dI:=
 match C.P.underlying st with
 |some (.slice dU)=>(match C.P.info? dU,se C dU with
  |some i,some br=>bK (Nat.blt 0 i.size&&Nat.ble i.bytes 65536&&Nat.beq br.cells.length i.size&&Nat.ble n 1048576) (bK (Nat.beq n 0) (DO C h i.size s)<|wo C h j i.size n (kp n br.cells) s)<|none
  |_,_=>none)
 |_=>none
def aej(i:TypeInfo):Bool:=match i.zero with|some br=>Nat.beq br.cells.size i.size|none=>false
def DK(h:R ag)(j:Nat)(st:Nat)(s x:z):Option dI:=
 match C.P.underlying st with
 |some (.slice dU)=>(match C.P.info? dU with
  |some i=>(match kS C h i.size x with
   |some (n,k)=>bK (Nat.blt 0 i.size&&Nat.ble i.bytes 65536&&aej i) ((bK (Nat.beq n 0) (DO C h i.size s)<|wo C h j i.size n k s))<|none
   |none=>none)
  |none=>none)
 |_=>none
def awe(h:R ag)(j:Nat)(b V m:Nat)(k:List z):Option dI:=
 bK (Nat.beq m 0) (some (.val (.int .i64 0)))<|
 (match og C h b V k with|some S=>some (.fl (.int .i64 (Int.ofNat m)) S j)|none=>none)
def setObj(h:R ag)(j:Nat)(r:Nat)(V:ag)(v:z):Option dI:=
 bK (iB C r) (iQ (bn C h r (some V)) λh=>some (.fl v h j))<|none
def Gu(h:R ag)(j:Nat)(t:Nat)(m o v:z):Option dI:=
 match C.P.underlying t,m with
 |some (.map ji _), .map r=>(match Z C h r with
  |some (.map b3 fF)=>bK (mS C 20 ji o) (match findKey C h ji o b3 0 with
   |some (some (i,_))=>(match qX b3 i with
    |some (eE,_,born)=>bK (oO 20 eE o) (setObj C h j r (.map (b3.set i (o,v,born)) fF) undef) none
    |none=>none)
   |some none=>setObj C h j r (.map (b3++[(o,v,fF)]) (fF+1)) undef
   |none=>none) none
  |_=>none)
 |_,_=>none
def MG(x e:z):Bool:=match x,e with
    | .bool D, .bool b=>Ka D b
    | .int o D, .int eE b=>ly o eE&&sT D b
    | .str D, .str b=>l8 D b
    | .aV, .aV=>true
    | .cM, .cM=>true
    | .nilIface, .nilIface=>true
    |_,_=>false
def CL:List z->List z->Bool
 |[],[]=>true
 |D::x,b::e=>MG D b&&CL x e
 |_,_=>false
def known(f:Nat)(args:List z):List (Nat×List z×z)->Option z
 |[]=>none
 |(g,cf,v)::k=>bK (Nat.beq f g&&CL args cf) (some v)<|known f args k
def rl(f:Nat)(args:List z):Option dI:=
 match C.gS f args with
 |some v=>some (.known f args v)
 |none=>(match C.P.funcs[f]? with
  |some fn=>(match fn.body with
   |some _=>some (.enter f args)
   |none=>none)
  |none=>none)
def yc(fn:Fn)(fm args:List z):Option dI:=
 match fn with
 | .func f=>rl C f (args++fm)
 | .yield k=>some (.round k args)
 |_=>none
def DL(h:R ag)(t:Nat)(v:z)(name:String)(args:List z):Option dI:=
 match C.P.info? t with
 |some i=>(match i.methods.find? (·.name==name)with
  |some m=>bK m.path.isEmpty (match m.func,C.P.underlying t with
   |some (f,true),some (.pointer _)=>rl C f (v::args)
   |some (f,false),some (.pointer B)=>(match pb C h B v with|some x=>rl C f (x::args)|none=>none)
   |some (f,false),some _=>rl C f (v::args)
   |_,_=>none) none
  |none=>none)
 |none=>none
def M3(h:R ag)(j s:Nat)(D v:z):Option dI:=
 match D with
 | .ptr b V=>bK (Nat.beq v.cells.length s&&Nat.blt 0 s) ((match og C h b V v.cells with|some S=>some (.fl undef S j)|none=>none))<|none
 |_=>none
def Et(t:Nat)(m o x:Operand)(h:R ag)(j:Nat)(aw:Operand->Option z):Option dI:=
 match aw m,aw o,aw x with
 |some m,some o,some v=>Gu C h j t m o v
 |_,_,_=>none
def Hs(_:Nat)(_ _:Operand)(_:R ag)(_:Nat)(_:Operand->Option z):Option dI:=(λ_:aM=>none) C
def Hl(_ _ _:Operand)(_:R ag)(_:Nat)(_:Operand->Option z):Option dI:=(λ_:aM=>none) C
def Hr(t:Nat)(k c:Operand)(h:R ag)(j:Nat)(aw:Operand->Option z):Option dI:=
 match C.P.underlying t,aw k,aw c with
 |some (.slice dU),some k,some c=>(match nh k,nh c,C.P.info? dU,se C dU with
  |some k,some c,some i,some br=>bK (Nat.ble k c&&Nat.ble c 1048576&&Nat.ble i.bytes 65536&&Nat.blt 0 i.size&&Nat.beq br.cells.length i.size) (mz C h j (.cells (R.ofList (kp c br.cells) 0 .nil) (c*i.size) .own) λb=> .slice b 0 k c)<|none
  |_,_,_,_=>none)
 |_,_,_=>none
def Hq(t:Nat)(r:Operand)(h:R ag)(j:Nat)(aw:Operand->Option z):Option dI:=
 match C.P.underlying t,aw r with
 |some (.map _ _),some (.int _ _)=>mz C h j (.map [] 0) λb=> .map b
 |_,_=>none
def Hy(s d:Nat)(x:Operand)(h:R ag)(j:Nat)(aw:Operand->Option z):Option dI:=
 match C.P.underlying s,C.P.underlying d,aw x with
 |some .string,some (.slice B),some (.str k)=>(match C.P.underlying B with
  |some (.int .u8)=>sD C h j k.length 1 (k.map λn=>z.int .u8 (Int.ofNat n))
  |_=>none)
 |some (.slice _),some (.slice B),some (.slice b V len cap)=>(match C.P.underlying B with
  |some (.int .u8)=>bK (Nat.beq s d&&iB C b) (match Z C h b with
   |some (.cells c n .own)=>iQ (bn C h b (some (.cells c n .marked))) λh=>some (.fl (.slice b V len cap) h j)
   |some (.cells _ _ .marked)=>some (.val (.slice b V len cap))
   |_=>none) none
  |_=>none)
 |_,_,_=>none
def Hw(t:Nat)(x:Operand)(h:R ag)(j:Nat)(aw:Operand->Option z):Option dI:=
 match C.P.underlying t,aw x with
 |some .string,some (.str s)=>mz C h j (.nZ s 0) λb=> .ptr b 0
 |some (.map _ _),some .lM=>mz C h j (.xs none 0 [] 0) λb=> .ptr b 0
 |some (.map _ _),some (.map r)=>(match Z C h r with
  |some (.map _ fF)=>mz C h j (.xs (some r) fF [] fF) λb=> .ptr b 0
  |_=>none)
 |_,_=>none
def r0(n:Nat):List Nat->Bool
 |[]=>false
 |D::k=>Nat.beq n D||r0 n k
def va(ej:Operand)(xl:Bool)(h:R ag)(j:Nat)(aw:Operand->Option z):Option dI:=
 match aw ej with
 |some (.ptr r 0)=>bK (iB C r) (match Z C h r,xl with
  |some (.nZ s pos),true=>bK (Nat.blt pos s.length) (match qX s pos with
    |some c=>bK (Nat.blt c 128) (setObj C h j r (.nZ s (pos+1)) (.tuple [.bool true, .int .i64 (Int.ofNat pos), .int .i32 (Int.ofNat c)])) none
    |none=>none)
   (some (.val (.tuple [.bool false])))
  |some (.xs none _ _ _),false=>some (.val (.tuple [.bool false]))
  |_,_=>none) none
 |_=>none
def PL(x:Operand)(_:R ag)(_:Nat)(aw:Operand->Option z):Option dI:=
 match aw x with|some (.iface t v)=>some (.panic (.iface t v))|_=>none
def Py(c:Call)(_:R ag)(_:Nat)(aw:Operand->Option z):Option dI:=
 match c with
 |⟨.value f,args,_⟩=>(match aw f,ph aw args.toList with
  |some (.func fn first fm),some cf=>some (.defer ⟨.fn fn fm,first++cf⟩)
  |_,_=>none)
 |_=>none
def Hh(b:Builtin)(args:Array Operand)(cS:Array TypeId)(h:R ag)(j:Nat)(aw:Operand->Option z):Option dI:=
 match b,ph aw args.toList with
 | .append,some [s,x]=>(match cS.toList with
   |st::hX::_=>(match C.P.underlying hX with
    |some (.int _)=>(match nh x with|some n=>JY C h j st s n|none=>none)
    |some (.slice _)=>DK C h j st s x
    |some .string=>DK C h j st s x
    |_=>none)
   |_=>none)
 | .recover,some []=>some .recover
 |_,_=>none
def Bx(c:Call)(h:R ag)(j:Nat)(aw:Operand->Option z):Option dI:=
 match c with
 |⟨.value f,args,_⟩=>(match aw f,ph aw args.toList with
  |some (.func fn first fm),some cf=>yc C fn fm (first++cf)
  |_,_=>none)
 |⟨.builtin b,args,cS⟩=>Hh C b args cS h j aw
 |⟨.invoke r name,args,_⟩=>(match aw r,ph aw args.toList with
  |some (.iface t v),some cf=>DL C h t v name cf
  |_,_=>none)
def mR(V:Op):aM->R ag->Nat->(Operand->Option z)->Option dI:=
 match V with
 | .mapUpdate t m o x=>λC=>Et C t m o x
 | .insert t m o x=>λC=>Et C t m o x
 | .mapEntry t m o=>λC=>Hs C t m o
 | .entryStore _ m s x=>λC=>Hl C m s x
 | .makeSlice t k c=>λC=>Hr C t k c
 | .makeMap t (some r)=>λC=>Hq C t r
 | .convert s d x=>λC=>Hy C s d x
 | .range t x=>λC=>Hw C t x
 | .next ej xl=>λC=>va C ej xl
 | .panic x=>λ_=>PL x
 | .defer c=>λ_=>Py c
 | .call c=>λC=>Bx C c
 |_=>λ_ _ _ _=>none
end ao
def kG(x:jR):List (Nat×z)->R z->Option z:=
 match x with
 | .v W=>λan _=>d1 an W
 | .t n=>λ_ H=>H.get n
 | .c D=>λ_ _=>some D
def ys(an:List (Nat×z))(H:R z):List jR->Option (List z)
 |[]=>some []
 |x::k=>match kG x an H with
  |none=>none
  |some v=>match ys an H k with
   |none=>none
   |some r=>some (v::r)
def iC(bT:List (Nat×Nat))(an:List (Nat×z))(H:R z)(V:Operand):Option z:=match V with
 | .tmp t=>(match d1 bT t with|some W=>d1 an W|none=>H.get t)
 | .const v=>CF v
 | .global g=>some (.ptr g 0)
 | .func f=>some (.func (.func f) [] [])
def hI(d:Nat)(v:z):Option z:=match v with| .ptr b V=>some (.ptr b (V+d))|_=>none
def Nk(c:z)(D b:jR)(an:List (Nat×z))(H:R z):Option z:=match c with
 | .bool c=>bK c (kG D an H) (kG b an H)
 |_=>none
def JB(n aO:Nat)(x:z)(i:Nat):Option z:=match x with| .ptr b V=>bK (Nat.blt i n) (some (.ptr b (V+i*aO))) none|_=>none
def AN(aO:Nat)(x:z)(i:Nat):Option z:=match x with
 | .slice b V len _=>bK (Nat.blt i len) (some (.ptr b (V+i*aO))) none
 | .fh b V len _=>bK (Nat.blt i len) (some (.ptr b (V+i*aO))) none
 |_=>none
def mh(v:z):Option z:=match v with
 | .ptr b V=>some (.ptr b V)
 | .func fn D b=>(match fn with| .func f=>some (.func (.func f) D b)| .yield f=>some (.func (.yield f) D b)|_=>none)
 | .iface t v=>some (.iface t v)
 |_=>none
def q2(i:Nat)(v:z):Option z:=match v with| .tuple bj=>qX bj i|_=>none
def gr(V:jl):aM->R ag->List (Nat×z)->R z->Option z:=
 match V with
 | .Cu x=>λ_ _=>kG x
 | .pick c D b=>λ_ _ an H=>(match kG c an H with|some c=>Nk c D b an H|none=>none)
 | .fA D=>λC h an H=>(match kG D an H with|some D=>aR C h D|none=>none)
 | .Af n D=>λC h an H=>(match kG D an H with|some D=>d0 C h n D|none=>none)
 | .off d x=>λ_ _ an H=>(match kG x an H with|some D=>hI d D|none=>none)
 | .y6 n aO x i=>λ_ _ an H=>(match kG x an H with|some D=>(match kG i an H with|some i=>(match nh i with|some i=>JB n aO D i|none=>none)|none=>none)|none=>none)
 | .y7 aO x i=>λ_ _ an H=>(match kG x an H with|some D=>(match kG i an H with|some i=>(match nh i with|some i=>AN aO D i|none=>none)|none=>none)|none=>none)
 | .CA x=>λ_ _ an H=>(match kG x an H with|some D=>mh D|none=>none)
 | .Ip op x e=>λ_ _ an H=>(match kG x an H with|some D=>(match kG e an H with|some b=>bg op D b|none=>none)|none=>none)
 | .ext i x=>λ_ _ an H=>(match kG x an H with|some D=>q2 i D|none=>none)
 | .hC bT V=>λC h an H=>nx V C h (iC bT an H)
 |_=>λ_ _ _ _=>none
def nF(V:jl):aM->Nat->List (Nat×z)->R z->Option (z×ag):=
 match V with
 | .make bT V=>λC b an H=>pP V C (iC bT an H) b
 |_=>λ_ _ _ _=>none
def hn(V:jl):aM->R ag->Nat->List (Nat×z)->R z->Option dI:=
 match V with
 | .st n D v=>λC h j an H=>(match kG D an H with|some D=>(match kG v an H with|some v=>M3 C h j n D v|none=>none)|none=>none)
 | .call f args=>λC _ _ an H=>(match ys an H args with|some cf=>rl C f cf|none=>none)
 | .e2 bT V=>λC h j an H=>mR V C h j (iC bT an H)
 |_=>λ_ _ _ _ _=>none
inductive aev where|hC|make|e2
def l3(V:jl):aev:=match V with
 | .st .. => .e2| .call .. => .e2| .e2 .. => .e2
 | .make .. => .make
 |_=> .hC
def Mh(V:jl)(C:aM)(h:R ag)(j:Nat)(an:List (Nat×z))(H:R z):Option dI:=
 pT j λj=>(match nF V C j an H with|some (v,cE)=>iQ (bn C h j (some cE)) λh=>some (.fl v h (j+1))|none=>none)
def e8(m i:Nat):Bool:=Nat.beq (Nat.mod (Nat.div m (Nat.pow 2 i)) 2) 1
def me(bT:List (Nat×Nat))(V:Operand):Option jR:=match V with
 | .tmp t=>(match d1 bT t with|some W=>some (.v W)|none=>some (.t t))
 | .const v=>(match CF v with|some D=>some (.c D)|none=>none)
 | .global g=>some (.c (.ptr g 0))
 | .func f=>some (.c (.func (.func f) [] []))
def FU(bT:List (Nat×Nat)):List Operand->Option (List jR)
 |[]=>some []
 |x::k=>match me bT x,FU bT k with|some v,some r=>some (v::r)|_,_=>none
def apL(C:aM)(s d:Nat):Bool:=match C.P.underlying s,C.P.underlying d with
 |some .string,some (.slice _)=>true
 |some (.slice _),some (.slice _)=>true
 |_,_=>false
def apI(C:aM)(t:Nat):Bool:=match C.P.underlying t with|some (.int _)=>true|_=>false
def lh(C:aM)(bT:List (Nat×Nat))(V:Op):Option jl:=
 match V with
 | .move x| .assign x=>(match me bT x with|some x=>some (.Cu x)|none=>none)
 | .pick c D b=>(match me bT c,me bT D,me bT b with|some c,some D,some b=>some (.pick c D b)|_,_,_=>none)
 | .load t D=>(match me bT D,Ca C t,iK C t with
   |some D,some true,some s=>some (.Af s D)
   |some D,some false,_=>some (.fA D)
   |_,_,_=>none)
 | .fieldAddr s x f=>(match C.P.underlying s,me bT x with
   |some (.struct jq),some x=>(match qX jq.toList f with
    |some rr=>(match iK C rr.type with|some br=>bK (Nat.beq br 0) (none)<|some (.off rr.offset x)|none=>none)
    |none=>none)
   |_,_=>none)
 | .indexAddr t x i=>(match C.P.underlying t,me bT x,me bT i with
   |some (.array n dU),some x,some i=>(match iK C dU with|some aO=>some (.y6 n aO x i)|none=>none)
   |some (.slice dU),some x,some i=>(match iK C dU with|some aO=>some (.y7 aO x i)|none=>none)
   |_,_,_=>none)
 | .nilCheck x=>(match me bT x with|some x=>some (.CA x)|none=>none)
 | .binOp op t x e F3=>bK (apI C t) ((match me bT x,me bT e with|some x,some e=>some (.Ip op x e)|_,_=>none))<|some (.hC bT (.binOp op t x e F3))
 | .extract x i=>(match me bT x with|some x=>some (.ext i x)|none=>none)
 | .store t D x=>(match me bT D,me bT x,iK C t with|some D,some x,some s=>some (.st s D x)|_,_,_=>none)
 | .call ⟨.value (.func f),args,cS⟩=>(match FU bT args.toList with|some cf=>some (.call f cf)|none=>none)
 | .call ⟨.builtin b,args,cS⟩=>(match b with
   | .len| .cap| .max| .min=>some (.hC bT (.call ⟨.builtin b,args,cS⟩))
   |_=>some (.e2 bT (.call ⟨.builtin b,args,cS⟩)))
 | .call c=>some (.e2 bT (.call c))
 | .convert s d x=>bK (apL C s d) (some (.e2 bT (.convert s d x)))<|some (.hC bT (.convert s d x))
 | .alloc t=>some (.make bT (.alloc t))
 | .box t x=>some (.make bT (.box t x))
 | .buildSlice t k p=>some (.make bT (.buildSlice t k p))
 | .makeMap t none=>some (.make bT (.makeMap t none))
 | .makeMap t (some r)=>some (.e2 bT (.makeMap t (some r)))
 | .mapUpdate t m o x=>some (.e2 bT (.mapUpdate t m o x))
 | .insert t m o x=>some (.e2 bT (.insert t m o x))
 | .mapEntry t m o=>some (.e2 bT (.mapEntry t m o))
 | .entryStore t m s x=>some (.e2 bT (.entryStore t m s x))
 | .makeSlice t k c=>some (.e2 bT (.makeSlice t k c))
 | .range t x=>some (.e2 bT (.range t x))
 | .next i s=>some (.e2 bT (.next i s))
 | .panic x=>some (.e2 bT (.panic x))
 | .defer c=>some (.e2 bT (.defer c))
 |V=>some (.hC bT V)
def uX(W:Nat):List (Nat×Nat)->Option Nat
 |[]=>none
 |(t,i)::k=>bK (Nat.beq i W) (some t)<|uX W k
def GG(wr:List (Nat×Nat))(g:Option (Nat×Bool)):Option (Option (Nat×Bool)):=match g with
 |none=>some none
 |some (W,k9)=>(match uX W wr with
  |some t=>(match d1 wr t with
   |some oM=>bK (Nat.beq W oM) (some (some (W,k9)))<|none
   |none=>none)
  |none=>none)
def wm(V:Oper)(i:Nat)(wr:List (Nat×Nat)):List (Nat×Nat):=match V.dst with|some d=>(d,i)::wr|none=>wr
def Ku(n:Nat)(V:Oper):Bool:=match V.dst with|some d=>Nat.blt d n|none=>true
def xw(C:aM)(am:Nat)(bT:List (Nat×Nat))(V:Operand):Bool:=match V with
 | .tmp t=>(match d1 bT t with|some _=>true|none=>e8 am t)
 | .global g=>Nat.blt g C.oS
 |_=>true
def CH(C:aM)(am:Nat)(bT:List (Nat×Nat)):List Operand->Bool
 |[]=>true
 |x::k=>xw C am bT x&&CH C am bT k
def rn(C:aM)(n am:Nat):List Oper->Nat->List (Nat×Nat)->Option (List e4)
 |[],_,_=>some []
 |V::k,i,wr=>pT i λi=>match GG wr V.guard,lh C wr V.op with
  |some g,some op=>bK (Ku n V&&CH C am wr V.op.operands.toList) (match rn C n am k (i+1) (wm V i wr)with|some r=>some (⟨i,g,op⟩::r)|none=>none) none
  |_,_=>none
def kH(am:Nat):List Oper->Nat->List (Nat×Nat)
 |[],_=>[]
 |V::k,i=>match V.dst with
  |some d=>bK (e8 am d) ((i,d)::kH am k (i+1))<|kH am k (i+1)
  |none=>kH am k (i+1)
def dstsOf:List Oper->List Nat
 |[]=>[]
 |V::k=>match V.dst with|some d=>d::dstsOf k|none=>dstsOf k
structure NC where
 rest:List e4
 fin:List (Nat×Nat)
def IR(C:aM)(n:Nat)(ao:Array Oper)(am:Nat):Option NC:=
 match rn C n am ao.toList 0 []with
 |some cs=>some ⟨cs,kH am ao.toList 0⟩
 |none=>none
def Fz(V:Operand)(m:Nat):Nat:=match V with| .tmp t=>Nat.lor m (Nat.pow 2 t)|_=>m
def FA(k:List Operand):Nat:=k.foldr Fz 0
def GU(V:Oper):Nat:=match V.dst with|some d=>Nat.pow 2 d|none=>0
def KT(wr:List (Nat×Nat))(g:Option (Nat×Bool)):Nat:=match g with
 |none=>0
 |some (W,_)=>(match uX W wr with|some t=>Nat.pow 2 t|none=>0)
def Bl(hW:List (Nat×Nat))(B:Edge)(m:Nat):Nat:=
 bK (e8 m B.on) (m)<|bK (Region.binds .any B) ((match d1 hW B.on with|some o=>Nat.lor (Nat.lor m o) (Nat.pow 2 B.on)|none=>m))<|m
structure fR where
 i:Nat
 m:Nat
 r:Nat
 w:Nat
def Am:List Oper->Nat->List (Nat×Nat)->List (Nat×Nat)->List fR
 |[],_,_,_=>[]
 |V::k,i,wr,hW=>pT i λi=>pT (V.after.toList.foldr (Bl hW) 0) λm=>
  ⟨i,m,Nat.lor (FA V.op.operands.toList) (KT wr V.guard),GU V⟩::Am k (i+1) (wm V i wr) ((i,m)::hW)
def My(D b:fR):Bool:=
 e8 b.m D.i||(Nat.beq (Nat.land D.w (Nat.lor b.r b.w)) 0&&Nat.beq (Nat.land b.w D.r) 0)
def MA(D:fR):List fR->Bool
 |[]=>true
 |b::k=>My D b&&MA D k
def I1:List fR->Bool
 |[]=>true
 |D::k=>MA D k&&I1 k
def HL:List fR->Bool
 |[]=>true
 |D::k=>(match k with|[]=>true|b::_=>e8 b.m D.i)&&HL k
def CG:List Oper->Nat->Bool
 |[],_=>true
 |V::k,i=>V.after.toList.all (λB=> !Region.binds .any B||Nat.blt B.on i)&&CG k (i+1)
def tA(m:Nat):List fR->Nat
 |[]=>0
 |a::k=>bK (e8 m a.i) (Nat.succ (tA m k))<|tA m k
def yN(i:Nat):List fR->Nat
 |[]=>0
 |a::k=>bK (e8 a.m i) (0)<|Nat.succ (yN i k)
structure pa where
 x:e4
 bL:Nat
 aE:Nat
def nb(V:jl):Bool:=match l3 V with| .e2=>true|_=>false
def EB:List fR->List e4->List (fR×e4)
 |p::db,c::cs=>bK (nb c.op) ((p,c)::EB db cs)<|EB db cs
 |_,_=>[]
def Fi(aD:List fR):List fR->List e4->List pa
 |p::db,c::cs=>bK (nb c.op) (Fi aD db cs)<|⟨c,tA p.m aD,yN p.i aD⟩::Fi aD db cs
 |_,_=>[]
def sm(o:Nat):List pa->List e4
 |[]=>[]
 |k::hV=>bK (Nat.beq k.bL o) (k.x::sm o hV)<|sm o hV
def CQ(o:Nat):List pa->List e4
 |[]=>[]
 |k::hV=>bK (Nat.blt k.bL o&&Nat.ble o k.aE&&AG k.x.op) (k.x::CQ o hV)<|CQ o hV
def xt(hV:List pa):Nat->List (fR×e4)->List uN
 |o,[]=>[⟨sm o hV,CQ o hV,none⟩]
 |o,(_,af)::k=>⟨sm o hV,CQ o hV,some af⟩::xt hV (o+1) k
def pU:List (fR×e4)->List fR
 |[]=>[]
 |(p,_)::k=>p::pU k
structure NB where
 kT:List uN
 fin:List (Nat×Nat)
def IQ(C:aM)(n:Nat)(ao:Array Oper)(am:Nat):Option NB:=
 match rn C n am ao.toList 0 []with
 |none=>none
 |some cs=>(λall=>(λaD=>bK (CG ao.toList 0&&I1 all&&HL (pU aD)) (some ⟨xt (Fi (pU aD) all cs) 0 aD,kH am ao.toList 0⟩)<|none) (EB all cs)) (Am ao.toList 0 [] [])
def WC:List Oper->Nat->Nat->Nat
 |[],_,r=>r
 |V::k,Wc,r=>WC k (Nat.lor Wc (GU V)) ((λrd=>Nat.lor r (Nat.xor rd (Nat.land rd Wc))) (FA V.op.operands.toList))
def jL:Code->Nat
 | .region _ ao _=>WC ao.toList 0 0
 | .seq D b=>Nat.lor (jL D) (jL b)
 | .cond c D b=>Fz c (Nat.lor (jL D) (jL b))
 | .block _ b=>jL b
 | .loop b=>jL b
 | .scope b=>jL b
 | .rangeFunc f _ D b=>Fz f (Nat.lor (jL D) (jL b))
 |_=>0
def nj(k:List ResultVar):Nat:=k.foldr (λx r=>match x with| .tmp t=>Nat.lor r (Nat.pow 2 t)| .cell D _=>Nat.lor r (Nat.pow 2 D)) 0
def li(C:aM)(am:Nat):Code->Bool
 | .seq D b=>li C am D&&li C am b
 | .cond c D b=>xw C am [] c&&(li C am D&&li C am b)
 | .block _ b=>li C am b
 | .loop b=>li C am b
 | .scope b=>li C am b
 | .rangeFunc f _ D b=>xw C am [] f&&(li C am D&&li C am b)
 |_=>true
def xB(am:Nat):List ResultVar->Bool
 |[]=>true
 | .tmp t::k=>e8 am t&&xB am k
 | .cell D _::k=>e8 am D&&xB am k
end
end Go.bp
@[match_pattern]abbrev Go.bp.z.Z(x:Int):Go.bp.z:=.int .i64 x
@[match_pattern]abbrev Go.bp.z.zF:Go.bp.z:=.bool false
@[match_pattern]abbrev Go.bp.z.zT:Go.bp.z:=.bool true
namespace Go.bp
@[simp] def fj{α:Type _}(D b:α):bK true D b=D:=rfl
@[simp] def kE{α:Type _}(D b:α):bK false D b=b:=rfl
def eU{α:Type _}(c:Bool)(D b:α):bK c D b=if c=true then D else b:=by cases c<;>rfl
def hw{α:Type _}(x e:Nat)(D b:α):bK (Nat.beq x e) D b=if x=e then D else b:=by
 rw[eU];by_cases a:x=e
 ·rw[Zp a,Zp (Nat.beq_eq▸a)]
 ·rw[Zg a,Zg (λB=>a (Zj B))]
@[simp] def ey{α:Type _}(c:Bool)(D:Option α)(v:α):bK c D none=some v↔c=true/\D=some v:=by cases c<;>simp
@[simp] def lG{d8:Type}(n:Nat)(o:Nat->d8):pT n o=o n:=by cases n<;>rfl
@[simp] def Ea{d8:Type}(n:Int)(o:Int->d8):O5 n o=o n:=by
  cases n with
  |ofNat m=>exact lG m λm=>o (.ofNat m)
  |negSucc m=>exact lG m λm=>o (.negSucc m)
@[simp] def gB{α d8:Type}(t:R α)(o:R α->d8):iQ t o=o t:=by cases t<;>rfl
@[simp] def aio{α:Type}(W:Nat):d1 ([]:List (Nat×α)) W=none:=rfl
def qB{α:Type}(D:Nat)(b:α)(k:List (Nat×α))(W:Nat):d1 ((D,b)::k) W=if D=W then some b else d1 k W:=by
 show bK (Nat.beq D W) (some b) (d1 k W)=_
 rw[hw]
@[simp] def qj{α:Type}(k:List α):∀i,qX k i=k[i]? :=by
  induction k with
  |nil=>intro i;rfl
  |cons D k ah=>intro i;cases i with
   |zero=>rfl
   |succ W=>exact ah W
namespace R
variable{α:Type}
@[simp] def awj(i:Nat):(R.nil:R α).get i=none:=rfl
@[simp] def awk(v:Option α)(k r:R α):(R.node v k r).get 0=v:=rfl
def yx(v:Option α)(k r:R α)(W:Nat):(R.node v k r).get (W+1)=if W%2=0 then k.get (W/2)else r.get (W/2):=by
 show bK (Nat.beq (W%2) 0) (k.get (W/2)) (r.get (W/2))=_
 rw[hw]
def at4(f:Nat)(D:Option α):qY (f+1) R.nil 0 D= .node D .nil .nil:=rfl
def at3(f W:Nat)(D:Option α):qY (f+1) R.nil (W+1) D=
 if W%2=0 then .node none (qY f .nil (W/2) D) .nil else .node none .nil (qY f .nil (W/2) D):=by
 show bK (Nat.beq (W%2) 0) (iQ (qY f .nil (W/2) D) λb6=>R.node none b6 R.nil) (iQ (qY f .nil (W/2) D) λfy=>R.node none R.nil fy)=_
 rw[hw,gB,gB]
def at6(f:Nat)(v:Option α)(k r:R α)(D:Option α):qY (f+1) (.node v k r) 0 D= .node D k r:=rfl
def at5(f W:Nat)(v:Option α)(k r:R α)(D:Option α):qY (f+1) (.node v k r) (W+1) D=
 if W%2=0 then .node v (qY f k (W/2) D) r else .node v k (qY f r (W/2) D):=by
 show bK (Nat.beq (W%2) 0) (iQ (qY f k (W/2) D) λb6=>R.node v b6 r) (iQ (qY f r (W/2) D) λfy=>R.node v k fy)=_
 rw[hw,gB,gB]
def alp:∀(f:Nat) (t:R α) (i W:Nat) (D:Option α),i<f->(qY f t i D).get W=if i=W then D else t.get W:=by
 intro f
 induction f with
 |zero=>intro t i W D a;omega
 |succ f ah=>
  intro t i W D a
  cases i with
  |zero=>
   cases t with
   |nil=>rw[at4];cases W with
    |zero=>simp
    |succ W=>rw[yx];simp
   |node v k r=>rw[at6];cases W with
    |zero=>simp
    |succ W=>rw[yx,yx];simp
  |succ i=>
   have aE:i/2<f:=Zo
   cases t with
   |nil=>
    rw[at3]
    cases W with
    |zero=>split<;>simp
    |succ W=>
     by_cases B:i%2=0
     ·rw[Zp B,yx]
      by_cases f7:W%2=0
      ·rw[Zp f7,ah _ _ _ _ aE]
       by_cases al:i/2=W/2
       ·rw[Zp al,Zp Zo]
       ·rw[Zg al,Zg Zo];rfl
      ·rw[Zg f7,Zg Zo];rfl
     ·rw[Zg B,yx]
      by_cases f7:W%2=0
      ·rw[Zp f7,Zg Zo];rfl
      ·rw[Zg f7,ah _ _ _ _ aE]
       by_cases al:i/2=W/2
       ·rw[Zp al,Zp Zo]
       ·rw[Zg al,Zg Zo];rfl
   |node v k r=>
    rw[at5]
    cases W with
    |zero=>split<;>simp
    |succ W=>
     rw[yx v k r]
     by_cases B:i%2=0
     ·rw[Zp B,yx]
      by_cases f7:W%2=0
      ·rw[Zp f7,Zp f7,ah _ _ _ _ aE]
       by_cases al:i/2=W/2
       ·rw[Zp al,Zp Zo]
       ·rw[Zg al,Zg Zo]
      ·rw[Zg f7,Zg f7,Zg Zo]
     ·rw[Zg B,yx]
      by_cases f7:W%2=0
      ·rw[Zp f7,Zp f7,Zg Zo]
      ·rw[Zg f7,Zg f7,ah _ _ _ _ aE]
       by_cases al:i/2=W/2
       ·rw[Zp al,Zp Zo]
       ·rw[Zg al,Zg Zo]
def jF(t:R α)(i W:Nat)(D:Option α):(t.set i D).get W=if i=W then D else t.get W:=alp _ _ _ _ _ Zo
def KL(k:List α):∀(i:Nat) (t:R α) (W:Nat),(ofList k i t).get W=if i<=W/\W<i+k.length then k[W-i]? else t.get W:=by
 induction k with
 |nil=>intro i t W;simp only[ofList,ZY];rw[Zg Zo]
 |cons D k ah=>
  intro i t W
  simp only[ofList,gB]
  rw[ah,jF]
  by_cases B:i=W
  ·subst B;rw[Zg Zo,Zp rfl,Zp Zs];simp
  ·rw[Zg B]
   by_cases al:i+1<=W/\W<i+1+k.length
   ·rw[Zp al,Zp Zx]
    have:W-i=(W-(i+1))+1:=Zo
    rw[this,ZZ]
   ·rw[Zg al,Zg Zx]
def Pj(t:R α):∀(n V:Nat) (k:List α),t.kI V n=some k->k.length=n/\∀i,i<n->t.get (V+i)=k[i]? :=by
 intro n
 induction n with
 |zero=>intro V k a;simp[kI]at a;subst a;simp
 |succ n ah=>
  intro V k a
  simp only[kI]at a
  cases bX:t.get V with
  |none=>simp[bX]at a
  |some D=>
   simp only[bX]at a
   cases U:kI t (V+1) n with
   |none=>simp[U]at a
   |some r=>
    simp only[U,Ze]at a
    subst a
    obtain⟨I,M⟩:=ah _ _ U
    refine⟨by simp[I],λi aE=> ?_⟩
    cases i with
    |zero=>simpa using bX
    |succ i=>rw[show V+(i+1)=V+1+i by omega,M i Zo];simp
end R
def Tc(k:List z):∀(c:R z) (V:Nat),dP c V k=R.ofList k V c:=by
 induction k with
 |nil=>intro c V;rfl
 |cons v k ah=>intro c V;simp only[dP,R.ofList,gB];exact ah _ _
structure lU where
 cz:Nat
 dO:Nat
 room:Nat
 deriving Inhabited
abbrev cQ:=Nat->lU
def mn(J:cQ):Fn->Fn
 | .yield k=> .yield (J k).cz
 |f=>f
def fC(s:List Nat):ByteArray:=⟨(s.map UInt8.ofNat).toArray⟩
mutual
def aJ(J:cQ):z->Value
 | .bool b=> .bool b
 | .int o n=> .int o n
 | .str s=> .string (fC s)
 | .ptr b V=> .pointer (some ⟨(J b).cz,(J b).dO+V,none⟩)
 | .cM=> .pointer none
 | .slice b V len cap=> .slice (some ⟨(J b).cz,(J b).dO+V,none⟩) len cap
 | .fh b V len aO=> .slice (some ⟨(J b).cz,(J b).dO+V,none⟩) len (((J b).room-V)/aO)
 | .aV=> .slice none 0 0
 | .map m=> .map (some (J m).cz)
 | .lM=> .map none
 | .func fn D b=> .func (mn J fn) (bP J D).toArray (bP J b).toArray
 | .nilFunc=> .nilFunc
 | .iface t v=> .iface t (aJ J v)
 | .nilIface=> .nilIface
 | .agg cs=> .agg (bP J cs).toArray
 | .tuple bj=> .tuple (bP J bj).toArray
def bP(J:cQ):List z->List Value
 |[]=>[]
 |v::k=>aJ J v::bP J k
end
def pe(J:cQ)(k:List z):bP J k=k.map (aJ J):=by
 induction k with
 |nil=>rfl
 |cons v k ah=>simp[bP,ah]
def KN(Y:Nat->Prop):Fn->Prop
 | .yield k=>Y k
 | .func _=>True
 |_=>False
mutual
def b2(Y:Nat->Prop):z->Prop
 | .bool _=>True
 | .int _ _=>True
 | .str s=>∀x∈s,x<256
 | .ptr b _=>Y b
 | .cM=>True
 | .slice b _ _ _=>Y b
 | .fh b _ _ _=>Y b
 | .aV=>True
 | .map m=>Y m
 | .lM=>True
 | .func fn D b=>KN Y fn/\d2 Y D/\d2 Y b
 | .nilFunc=>True
 | .iface _ v=>b2 Y v
 | .nilIface=>True
 | .agg cs=>d2 Y cs
 | .tuple bj=>d2 Y bj
def d2(Y:Nat->Prop):List z->Prop
 |[]=>True
 |v::k=>b2 Y v/\d2 Y k
end
def tI(Y:Nat->Prop)(k:List z):d2 Y k↔∀v∈k,b2 Y v:=by
 induction k with
 |nil=>simp[d2]
 |cons v k ah=>simp[d2,ah]
mutual
def Ov{J hY:cQ}{Y:Nat->Prop}(a:∀b,Y b->J b=hY b):∀v,b2 Y v->aJ J v=aJ hY v
 | .bool _,_=>rfl
 | .int _ _,_=>rfl
 | .str _,_=>rfl
 | .ptr b V,g=>by simp only[aJ,a b g]
 | .cM,_=>rfl
 | .slice b V k c,g=>by simp only[aJ,a b g]
 | .fh b V k c,g=>by simp only[aJ,a b g]
 | .aV,_=>rfl
 | .map m,g=>by simp only[aJ,a m g]
 | .lM,_=>rfl
 | .func fn D b,g=>by
   obtain⟨cb,b5,cG⟩:=g
   have B:mn J fn=mn hY fn:=by
    cases fn<;>simp only[mn]
    rw[a _ cb]
   simp only[aJ,B,D1 a D b5,D1 a b cG]
 | .nilFunc,_=>rfl
 | .iface t v,g=>by simp only[aJ,Ov a v g]
 | .nilIface,_=>rfl
 | .agg cs,g=>by simp only[aJ,D1 a cs g]
 | .tuple bj,g=>by simp only[aJ,D1 a bj g]
def D1{J hY:cQ}{Y:Nat->Prop}(a:∀b,Y b->J b=hY b):∀k,d2 Y k->bP J k=bP hY k
 |[],_=>rfl
 |v::k,g=>by simp only[bP,Ov a v g.1,D1 a k g.2]
end
mutual
def ou{Y c8:Nat->Prop}(a:∀b,Y b->c8 b):∀v,b2 Y v->b2 c8 v
 | .bool _,_=>trivial
 | .int _ _,_=>trivial
 | .str _,g=>g
 | .ptr b _,g=>a b g
 | .cM,_=>trivial
 | .slice b _ _ _,g=>a b g
 | .fh b _ _ _,g=>a b g
 | .aV,_=>trivial
 | .map m,g=>a m g
 | .lM,_=>trivial
 | .func fn D b,g=>⟨by cases fn<;>first|exact a _ g.1|exact g.1,qF a D g.2.1,qF a b g.2.2⟩
 | .nilFunc,_=>trivial
 | .iface _ v,g=>ou a v g
 | .nilIface,_=>trivial
 | .agg cs,g=>qF a cs g
 | .tuple bj,g=>qF a bj g
def qF{Y c8:Nat->Prop}(a:∀b,Y b->c8 b):∀k,d2 Y k->d2 c8 k
 |[],_=>trivial
 |v::k,g=>⟨ou a v g.1,qF a k g.2⟩
end
open Go.RowKit (Below)
structure iM(J:cQ)(Y:Nat->Prop)(n am:Nat)(H:R z)(tmps:Array Value):Prop where
 size:tmps.size=n
 val:∀t v,e8 am t=true->H.get t=some v->tmps[t]? =some (aJ J v)/\b2 Y v
def NF(C:aM)(fn am:Nat):Prop:=∃f,C.P.funcs[fn]? =some f/\xB am f.results.toList=true
def Fa(c:Code):Prop:=c= .ret\/∃id,c= .exit id
def Bc(J:cQ):Nl->Target
 | .fn fn fm=> .fn (mn J fn) (bP J fm).toArray
 | .collected r=> .collected (J r).cz
def lg(J:cQ)(d:he):Deferred:=⟨Bc J d.target,(bP J d.args).toArray⟩
def alw(Y:Nat->Prop):Nl->Prop
 | .fn fn fm=>KN Y fn/\d2 Y fm
 | .collected r=>Y r
def u3(Y:Nat->Prop)(d:he):Prop:=alw Y d.target/\d2 Y d.args
def DG(st:nt)(n:Nat)(pl:lU)(aO bL aE:Nat):Prop:=match st with
 | .own=>bL=aE
 | .marked=>bL=aE\/aO<=bL
 | .grow _=>(bL=aE\/aO<=bL)/\n<=pl.room/\pl.dO+pl.room<=aO
 | .jA=>True/\n<=pl.room/\pl.dO+pl.room<=aO
def DG.free{st:nt}{n:Nat}{pl:lU}{aO bL aE:Nat}(a:DG st n pl aO bL aE)(jf:st≠ .jA):aE<=bL\/aO<=bL:=by
 cases st with
 |own=>exact .inl (zd a.symm)
 |marked=>exact a.imp (λB=>zd B.symm) id
 |grow _=>exact a.1.imp (λB=>zd B.symm) id
 |jA=>exact absurd rfl jf
def lk(J:cQ)(B:z×z×Nat):MapEntry:=⟨aJ J B.1,aJ J B.2.1,B.2.2⟩
def jC(C:aM)(J:cQ)(Y:Nat->Prop)(V:ag)(pl:lU)(w:World):Prop:=match V with
 | .cells c n st=>∃b7 ty bL aE,w.heap[pl.cz]? =some (.cells b7 ty (bL,aE))/\DG st n pl b7.size bL aE/\pl.dO+n<=b7.size/\
    ∀i v,c.get i=some v->b7[pl.dO+i]? =some (aJ J v)/\b2 Y v
 | .map b3 fF=>∃b7,w.heap[pl.cz]? =some (.map b7 fF)/\b7.toList=b3.map (lk J)/\∀B∈b3,b2 Y B.1/\b2 Y B.2.1
 | .look b3=>∃(b7:Array MapEntry) (fF:Nat) (lF:List (z×z×Nat)),w.heap[pl.cz]? =some (.map b7 fF)/\b7.toList=lF.map (lk J)/\(lF.map λB=>(B.1,B.2.1)).Perm b3/\∀B∈lF,b2 Y B.1/\b2 Y B.2.1
 | .nZ s pos=>pl.dO=0/\w.heap[pl.cz]? =some (.stringIter (fC s) pos)/\∀x∈s,x<256
 | .xs m ux seen st=>pl.dO=0/\w.heap[pl.cz]? =some (.mapIter (m.map λb=>(J b).cz) ux seen.toArray st)/\∀b,m=some b->Y b
 | .Fo m ux n cD st mT=>pl.dO=0/\Y m/\∃seen:List Nat,w.heap[pl.cz]? =some (.mapIter (some (J m).cz) ux seen.toArray st)/\(cD.filter λb=> !seen.contains b).length<=n/\∀b,mT=some b->abJ seen=some b
 | .loop state pending fn n am H params assign body aW=>∃tmps,w.heap[pl.cz]? =some (.loop ⟨state,pending,fn,tmps,params.toArray,assign,body,(J aW).cz⟩)/\iM J Y n am H tmps/\Y aW/\
    li C am assign=true/\li C am body=true/\(∀c,pending=some c->Fa c)/\NF C fn am
 | .deferred pd=>w.heap[pl.cz]? =some (.deferred (pd.map λk=>k.map (lg J)))/\∀k,pd=some k->∀d∈k,u3 Y d
def NT(V o':ag)(b dT:Nat):Prop:=
 (∃c n gA aQ,V= .cells c n .jA/\o'= .cells gA aQ .jA)\/
 (∃c n k gA aQ,V= .cells c n (.grow k)/\o'= .cells gA aQ .jA/\dT∈k/\aQ<=n)\/
 (∃c n k gA aQ,o'= .cells gA aQ (.grow k)/\V= .cells c n .jA/\b∈k/\n<=aQ)
def uK(C:aM)(Y:Nat->Prop)(V:ag):Prop:=(∀c n k,V= .cells c n (.grow k)->∀x∈k,Y x/\C.a6<=x)/\∀c n st,V= .cells c n st->∀i v,c.get i=some v->i<n
structure c9(C:aM)(J:cQ)(Y:Nat->Prop)(h:R ag)(j bd:Nat)(w:World):Prop where
 a6:C.a6<=j
 lt:∀b,Y b->b<j
 ur:∀b V,Z C h b=some V->b<j
 obj:∀b V,Z C h b=some V->Y b->jC C J Y V (J b) w
 sep:∀b dT V o',Z C h b=some V->Z C h dT=some o'->Y b->Y dT->b≠dT->C.a6<=b->(J b).cz=(J dT).cz->NT V o' b dT/\(J b).dO=(J dT).dO
 base:∀b V,C.a6<=b->Z C h b=some V->Y b->bd<=(J b).cz
 eb:∀b V,Z C h b=some V->Y b->uK C Y V
def iL(J:cQ)(Y:Nat->Prop)(aw:Operand->Value)(d5:Operand->Option z)(k:List Operand):Prop:=
 ∀x∈k,∀v,d5 x=some v->aw x=aJ J v/\b2 Y v
section
variable{C:aM}{J:cQ}{Y:Nat->Prop}{h:R ag}{j bd:Nat}{w:World}
def Of(s:ByteArray):fC (s.data.toList.map (·.toNat))=s:=by
 unfold fC
 rw[Yk]
 have:(UInt8.ofNat∘λx:UInt8=>x.toNat)=id:=by funext x;simp
 rw[this]
 simp
def arh{α d8:Type}(f:α->Option d8):∀(k:List α) (r:List d8),Ak f k=some r->r.length=k.length/\∀(i:Nat) (D:α),k[i]? =some D->∃b,r[i]? =some b/\f D=some b:=by
 intro k
 induction k with
 |nil=>intro r a;simp[Ak]at a;subst a;simp
 |cons D k ah=>
  intro r a
  simp only[Ak]at a
  cases ch:f D with
  |none=>simp[ch]at a
  |some b=>
   simp only[ch]at a
   cases U:Ak f k with
   |none=>simp[U]at a
   |some fy=>
    simp only[U,Ze]at a
    subst a
    obtain⟨I,M⟩:=ah _ U
    refine⟨by simp[I],λi x af=> ?_⟩
    cases i with
    |zero=>simp at af;subst af;exact⟨b,Zs,ch⟩
    |succ i=>simp at af;obtain⟨e,F,aps⟩:=M i x af;exact⟨e,by simpa using F,aps⟩
def arW(J:cQ)(Y:Nat->Prop):∀(n:Nat) (v:Value) (D:z),Ar n v=some D->v=aJ J D/\b2 Y D:=by
 intro n
 induction n with
 |zero=>intro v D a;simp[Ar]at a
 |succ n ah=>
  have list:∀(k:List Value) (r:List z),Ak (Ar n) k=some r->k=bP J r/\d2 Y r:=by
   intro k r a
   obtain⟨I,M⟩:=arh _ k r a
   constructor
   ·rw[pe]
    apply YH
    intro i
    rw[Zw]
    cases af:k[i]? with
    |none=>
     have:k.length<=i:=by simpa using af
     rw[ZT Zo];rfl
    |some x=>
     obtain⟨b,aj,jb⟩:=M i x af
     rw[aj,(ah _ _ jb).1];rfl
   ·rw[tI]
    intro v bt
    obtain⟨i,aE⟩:=ZW.1 bt
    have cO:i<k.length:=by
     have:=(Zb.1 aE).1;omega
    obtain⟨b,aj,jb⟩:=M i k[i] (Zf cO)
    rw[aE]at aj;simp at aj;subst aj
    exact(ah _ _ jb).2
  intro v D a
  unfold Ar at a
  split at a<;>(try(simp at a;subst a;simp[aJ,b2,mn,bP,KN,d2];done))
  ·simp at a;subst a
   refine⟨by simp only[aJ];rw[Of], ?_⟩
   simp only[b2]
   intro x af
   obtain⟨e,_,rfl⟩:=ZK.1 af
   exact e.toNat_lt
  ·rename_i t v
   split at a
   ·rename_i fK aC
    simp at a;subst a
    obtain⟨B,g⟩:=ah _ _ aC
    exact⟨by simp only[aJ,B],g⟩
   ·simp at a
  ·rename_i cs
   split at a
   ·rename_i k az
    simp at a;subst a
    obtain⟨B,g⟩:=list _ _ az
    exact⟨by simp only[aJ];rw[<-B],g⟩
   ·simp at a
  ·rename_i cs
   split at a
   ·rename_i k az
    simp at a;subst a
    obtain⟨B,g⟩:=list _ _ az
    exact⟨by simp only[aJ];rw[<-B],g⟩
   ·simp at a
  ·simp at a
def Mw{v:Value}{D:z}(a:CF v=some D):v=aJ J D/\b2 Y D:=arW J Y _ _ _ a
def qA(b V i:Nat):(⟨b,V,none⟩:Addr).add i=⟨b,V+i,none⟩:=by unfold Addr.add;split<;>simp_all
def ai1(U:c9 C J Y h j bd w){b:Nat}(aj:Y b){c:R z}(a:cellsOf C h b=some c):
 ∃b7 ty bL aE,w.heap[(J b).cz]? =some (.cells b7 ty (bL,aE))/\∀i v,c.get i=some v->b7[(J b).dO+i]? =some (aJ J v)/\b2 Y v:=by
 unfold cellsOf at a
 split at a
 ·rename_i gA n st bb
  simp at a;subst a
  obtain⟨b7,ty,bL,aE,I,_,_,aA⟩:=U.obj b _ bb aj
  exact⟨b7,ty,bL,aE,I,aA⟩
 ·simp at a
def VU(U:c9 C J Y h j bd w){b:Nat}(aj:Y b){c:R z}(a:cellsOf C h b=some c){V:Nat}{v:z}(bX:c.get V=some v):
 w.cell? ⟨(J b).cz,(J b).dO+V,none⟩=some (aJ J v)/\b2 Y v:=by
 obtain⟨b7,ty,bL,aE,I,aA⟩:=ai1 U aj a
 obtain⟨bq,bV⟩:=aA V v bX
 exact⟨by simp[World.cell?,I,bq],bV⟩
def Ki(U:c9 C J Y h j bd w){b:Nat}(aj:Y b){c:R z}(a:cellsOf C h b=some c){V n:Nat}{k:List z}(bX:c.kI V n=some k):
 (loadCells ⟨(J b).cz,(J b).dO+V,none⟩ n).run C.P w= .ok (bP J k).toArray w/\d2 Y k:=by
 obtain⟨I,M⟩:=R.Pj _ _ _ _ bX
 have key:∀i v,k[i]? =some v->w.cell? ⟨(J b).cz,(J b).dO+V+i,none⟩=some (aJ J v)/\b2 Y v:=by
  intro i v aE
  have cO:i<n:=zy (Zb.1 aE).1
  have:=VU U aj a (V:=V+i) (v:=v) (by rw[M i cO,aE])
  rwa[<-Z0]at this
 constructor
 ·have az:=run_loadCells_list (P:=C.P) w ⟨(J b).cz,(J b).dO+V,none⟩ (bP J k) (λW v bt=>by
   rw[qA]
   rw[pe,Zw]at bt
   cases af:k[W]? with
   |none=>simp[af]at bt
   |some D=>simp[af]at bt;subst bt;exact(key W D af).1)
  have eD:(bP J k).length=n:=by rw[pe,Zr,I]
  rw[eD]at az
  exact az
 ·rw[tI]
  intro v bt
  obtain⟨i,aE⟩:=ZW.1 bt
  exact(key i v aE).2
def auY{t n:Nat}(a:iK C t=some n):∃i,C.P.info? t=some i/\i.size=n:=by
 unfold iK at a
 cases aE:C.P.info? t with
 |none=>simp[aE]at a
 |some i=>simp[aE]at a;exact⟨i,rfl,a⟩
def oX{t n:Nat}(a:iK C t=some n)(w:World):(sizeOf t).run C.P w= .ok n w:=by
 obtain⟨i,aE,rfl⟩:=auY a
 simp[sizeOf,typeInfo,aE]
def CU{t:Nat}{br:z}(a:se C t=some br)(J:cQ)(Y:Nat->Prop)(w:World):(zeroValue t).run C.P w= .ok (aJ J br) w/\b2 Y br:=by
 unfold se at a
 cases aE:C.P.info? t with
 |none=>simp[aE]at a
 |some i=>
  simp only[aE]at a
  cases ce:i.zero with
  |none=>simp[ce]at a
  |some v=>
   simp only[ce]at a
   obtain⟨B,g⟩:=Mw (J:=J) (Y:=Y) a
   exact⟨by simp[zeroValue,typeInfo,aE,ce,B],g⟩
def MX{t:Nat}{b:Bool}(a:Ca C t=some b)(w:World):(isAgg t).run C.P w= .ok b w:=by
 unfold Ca at a
 cases aU:C.P.underlying t with
 |none=>simp[aU]at a
 |some d=>
  simp only[aU]at a
  cases d<;>simp at a<;>subst a<;>simp[isAgg,run_underlying aU]
end
end Go.bp

