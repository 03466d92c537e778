/- Part of the proof of the last text; no conditions -/
import GoSem.Step
import Derived.Below
import Derived.ChangeKeysEq
import Derived.Laws.IdiomCopy
import Derived.Laws.Unary
import Derived.Laws.Wrap64
import Derived.Laws.StructEq
import Derived.Laws.BytesString
set_option maxHeartbeats 8000000
set_option linter.all false
namespace Go
def Zo{p:Prop}(h:p:=by omega):p:=h
def Za{p q:Prop}(a:p)(b:q):p/\q:=⟨a,b⟩
def Zd{p:Prop}(h:p:=by decide):p:=h
def Zs{p:Prop}(h:p:=by simp):p:=h
def Zx{p:Prop}(h:p:=by simp;omega):p:=h
def Zk{p:Prop}(h:p:=by kernel_rfl):p:=h
def Zb:type_of%@List.getElem?_eq_some_iff:=@List.getElem?_eq_some_iff
def Zc:type_of%@decide_eq_false_iff_not:=@decide_eq_false_iff_not
def Ze:type_of%@List.getElem?_eq_getElem:=@List.getElem?_eq_getElem
def Zf:type_of%@Option.some.injEq:=@Option.some.injEq
def Zg:type_of%@decide_eq_true_eq:=@decide_eq_true_eq
def Zh:type_of%@if_neg:=@if_neg
def Zi:type_of%@List.length_map:=@List.length_map
def Zj:type_of%@Nat.le_refl:=@Nat.le_refl
def Zl:type_of%@Nat.eq_of_beq_eq_true:=@Nat.eq_of_beq_eq_true
def Zn:type_of%@List.mem_of_getElem?:=@List.mem_of_getElem?
def Zp:type_of%@if_pos:=@if_pos
def Zq:type_of%@Bool.and_eq_true:=@Bool.and_eq_true
def Zr:type_of%@List.drop_eq_getElem_cons:=@List.drop_eq_getElem_cons
def Zt:type_of%@List.mem_cons:=@List.mem_cons
def Zu:type_of%@List.mem_cons_of_mem:=@List.mem_cons_of_mem
def Zv:type_of%@List.mem_cons_self:=@List.mem_cons_self
def Zw:type_of%@List.getElem?_map:=@List.getElem?_map
def Zy:type_of%@Bool.false_eq_true:=@Bool.false_eq_true
def Zz:type_of%@List.mem_append:=@List.mem_append
def ZA:type_of%@Nat.le_trans:=@Nat.le_trans
def ZB:type_of%@List.take_of_length_le:=@List.take_of_length_le
def ZC:type_of%@if_false:=@if_false
def ZD:type_of%@List.drop_eq_nil_of_le:=@List.drop_eq_nil_of_le
def ZE:type_of%@if_true:=@if_true
def ZF:type_of%@List.length_cons:=@List.length_cons
def ZG:type_of%@List.mem_map:=@List.mem_map
def ZH:type_of%@not_false_eq_true:=@not_false_eq_true
def ZI:type_of%@List.not_mem_nil:=@List.not_mem_nil
def ZJ:type_of%@Nat.add_assoc:=@Nat.add_assoc
def ZK:type_of%@List.length_append:=@List.length_append
def ZL:type_of%@Option.bind_some:=@Option.bind_some
def ZM:type_of%@Array.getElem?_eq_some_iff:=@Array.getElem?_eq_some_iff
def ZN:type_of%@Nat.lt_of_lt_of_le:=@Nat.lt_of_lt_of_le
def ZO:type_of%@Array.getElem?_toList:=@Array.getElem?_toList
def ZP:type_of%@List.map_cons:=@List.map_cons
def ZQ:type_of%@List.map_append:=@List.map_append
def ZR:type_of%@Option.map_some:=@Option.map_some
def ZS:type_of%@Nat.zero_add:=@Nat.zero_add
def ZT:type_of%@List.getElem?_append_right:=@List.getElem?_append_right
def ZU:type_of%@List.take_add_one:=@List.take_add_one
def ZV:type_of%@Option.bind_eq_some_iff:=@Option.bind_eq_some_iff
def ZW:type_of%@List.getElem?_append_left:=@List.getElem?_append_left
def ZX:type_of%@Nat.add_zero:=@Nat.add_zero
def ZY:type_of%@List.mem_iff_getElem?:=@List.mem_iff_getElem?
def ZZ:type_of%@Option.isSome_none:=@Option.isSome_none
def Z0:type_of%@List.foldl_cons:=@List.foldl_cons
def Z1:type_of%@List.getElem?_cons_succ:=@List.getElem?_cons_succ
def Z2:type_of%@List.getElem?_eq_none:=@List.getElem?_eq_none
def Z3:type_of%@List.length_nil:=@List.length_nil
def Z4:type_of%@Option.isSome_some:=@Option.isSome_some
def Z5:type_of%@Nat.mul_one:=@Nat.mul_one
def Z6:type_of%@List.take_zero:=@List.take_zero
def Z7:type_of%@Nat.add_mul:=@Nat.add_mul
def Z8:type_of%@Nat.le_succ:=@Nat.le_succ
def Z9:type_of%@List.eq_nil_of_length_eq_zero:=@List.eq_nil_of_length_eq_zero
def Ya:type_of%@Bool.eq_iff_iff:=@Bool.eq_iff_iff
def Yb:type_of%@List.drop_zero:=@List.drop_zero
def Yc:type_of%@List.getElem?_cons_zero:=@List.getElem?_cons_zero
def Yd:type_of%@Int.eq_ofNat_of_zero_le:=@Int.eq_ofNat_of_zero_le
def Ye:type_of%@Option.bind_assoc:=@Option.bind_assoc
def Yf:type_of%@and_true:=@and_true
def Yg:type_of%@Option.map_eq_some_iff:=@Option.map_eq_some_iff
def Yh:type_of%@Nat.lt_succ_self:=@Nat.lt_succ_self
def Yi:type_of%@List.take_succ_cons:=@List.take_succ_cons
def Yj:type_of%@List.length_pos_iff:=@List.length_pos_iff
def Yk:type_of%@List.flatten_cons:=@List.flatten_cons
def Yl:type_of%@decide_false:=@decide_false
def Ym:type_of%@or_false:=@or_false
def Yn:type_of%@List.nil_append:=@List.nil_append
def Yo:type_of%@Bool.and_self:=@Bool.and_self
def Yp:type_of%@List.length_drop:=@List.length_drop
def Yq:type_of%@List.drop_succ_cons:=@List.drop_succ_cons
def Yr:type_of%@List.size_toArray:=@List.size_toArray
def Ys:type_of%@Bool.not_true:=@Bool.not_true
def Yt:type_of%@Bool.not_false:=@Bool.not_false
def Yu:type_of%@Option.some.inj:=@Option.some.inj
def Yv:type_of%@List.append_nil:=@List.append_nil
def Yw:type_of%@List.set_cons_zero:=@List.set_cons_zero
def Yx:type_of%@List.set_cons_succ:=@List.set_cons_succ
def Yy:type_of%@Array.getElem?_append_left:=@Array.getElem?_append_left
def Yz:type_of%@List.map_congr_left:=@List.map_congr_left
def YA:type_of%@List.takeWhile_cons:=@List.takeWhile_cons
def YB:type_of%@decide_true:=@decide_true
def YC:type_of%@Nat.mod_eq_of_lt:=@Nat.mod_eq_of_lt
def YD:type_of%@beq_self_eq_true:=@beq_self_eq_true
def YE:type_of%@List.getElem?_drop:=@List.getElem?_drop
def YF:type_of%@List.cons_append:=@List.cons_append
def YG:type_of%@Option.getD_some:=@Option.getD_some
def YH:type_of%@List.map_map:=@List.map_map
def YI:type_of%@List.cons.injEq:=@List.cons.injEq
def YJ:type_of%@List.mem_filter:=@List.mem_filter
def YK:type_of%@List.flatten_append:=@List.flatten_append
def YL:type_of%@Nat.sub_zero:=@Nat.sub_zero
def YM:type_of%@List.pairwise_iff_getElem:=@List.pairwise_iff_getElem
def YN:type_of%@Nat.zero_le:=@Nat.zero_le
def YO:type_of%@Int.emod_eq_of_lt:=@Int.emod_eq_of_lt
def YP:type_of%@Array.size_append:=@Array.size_append
def YQ:type_of%@Nat.lt_trichotomy:=@Nat.lt_trichotomy
def YR:type_of%@List.flatMap_cons:=@List.flatMap_cons
def YS:type_of%@List.getElem?_take_of_lt:=@List.getElem?_take_of_lt
def YT:type_of%@Prod.mk.injEq:=@Prod.mk.injEq
def YU:type_of%@not_or:=@not_or
def YV:type_of%@Bool.and_true:=@Bool.and_true
def YW:type_of%@Nat.le_mul_of_pos_right:=@Nat.le_mul_of_pos_right
def YX:type_of%@List.take_length:=@List.take_length
def YY:type_of%@Array.ext':=@Array.ext'
def YZ:type_of%@beq_iff_eq:=@beq_iff_eq
def Y0:type_of%@List.find?_eq_none:=@List.find?_eq_none
def Y1:type_of%@Option.map_none:=@Option.map_none
def Y2:type_of%@Array.getElem?_modify:=@Array.getElem?_modify
def Y3:type_of%@Nat.le_div_iff_mul_le:=@Nat.le_div_iff_mul_le
def Y4:type_of%@Array.mem_of_getElem?:=@Array.mem_of_getElem?
def Y5:type_of%@List.ext_getElem?:=@List.ext_getElem?
def Y6:type_of%@List.nodup_append:=@List.nodup_append
def Y7:type_of%@List.mapM_cons:=@List.mapM_cons
def Y8:type_of%@List.mem_of_mem_drop:=@List.mem_of_mem_drop
def Y9:type_of%@List.mem_of_mem_take:=@List.mem_of_mem_take
def za:type_of%@Nat.le_of_eq:=@Nat.le_of_eq
def zb:type_of%@Nat.beq_refl:=@Nat.beq_refl
def zc:type_of%@Nat.lt_or_ge:=@Nat.lt_or_ge
def zd:type_of%@Nat.le_add_right:=@Nat.le_add_right
def ze:type_of%@List.set_nil:=@List.set_nil
def zf:type_of%@List.length_take:=@List.length_take
def zg:type_of%@Bool.or_eq_true:=@Bool.or_eq_true
def zh:type_of%@List.find?_cons:=@List.find?_cons
def zi:type_of%@List.nodup_cons:=@List.nodup_cons
def zj:type_of%@List.drop_drop:=@List.drop_drop
def zk:type_of%@Nat.le_of_lt:=@Nat.le_of_lt
def zl:type_of%@Nat.zero_mul:=@Nat.zero_mul
def zm:type_of%@Nat.not_lt:=@Nat.not_lt
def zn:type_of%@Nat.mul_comm:=@Nat.mul_comm
def zo:type_of%@true_and:=@true_and
def zp:type_of%@and_self:=@and_self
def zq{p q:Prop}(a:q)(h:q->p:=by intro h;omega):p:=h a
def zr(a b:Nat)(h:b<=a:=by omega):decide ((a:Int)<(b:Int))=false:=decide_eq_false (by omega)
def zs(a b:Nat)(h:a<b:=by omega):decide ((a:Int)<(b:Int))=true:=decide_eq_true (by omega)
def zt{α:Type}(l:List α)(i:Nat)(h:i<l.length:=by omega):∃x,l[i]? =some x:=⟨_,List.getElem?_eq_getElem h⟩
end Go
namespace Go.ba
noncomputable section
inductive R(α:Type) where
 |nil
 |node (v:Option α) (k r:R α)
 deriving Inhabited
universe ac
def bV{α:Type ac}(c:Bool)(t E:α):α:=Bool.rec (motive:=λ_=>α) E t c
def R.get{α:Type}(t:R α):Nat->Option α:=
 R.rec (motive:=λ_=>Nat->Option α) (λ_=>none)
  (λv _ _ iB ri i=>Nat.rec (motive:=λ_=>Option α) v (λT _=>bV (Nat.beq (Nat.mod T 2) 0) (iB (Nat.div T 2)) (ri (Nat.div T 2))) i) t
def jS{α eJ:Type}(t:R α)(y:R α->eJ):eJ:=
 R.rec (motive:=λ_=>eJ) (y .nil) (λv k r _ _=>y (.node v k r)) t
def R.sI{α:Type}(f:Nat):R α->Nat->Option α->R α:=
 Nat.rec (motive:=λ_=>R α->Nat->Option α->R α) (λt _ _=>t)
  (λ_ ai t i F=>R.rec (motive:=λ_=>R α)
   (Nat.rec (motive:=λ_=>R α) (.node F .nil .nil) (λT _=>bV (Nat.beq (Nat.mod T 2) 0)
    (jS (ai .nil (Nat.div T 2) F) λbM=> .node none bM .nil) (jS (ai .nil (Nat.div T 2) F) λh7=> .node none .nil h7)) i)
   (λv k r _ _=>Nat.rec (motive:=λ_=>R α) (.node F k r) (λT _=>bV (Nat.beq (Nat.mod T 2) 0)
    (jS (ai k (Nat.div T 2) F) λbM=> .node v bM r) (jS (ai r (Nat.div T 2) F) λh7=> .node v k h7)) i) t) f
def rf{eJ:Type}(n:Nat)(y:Nat->eJ):eJ:=Nat.rec (motive:=λ_=>eJ) (y 0) (λm _=>y (Nat.succ m)) n
def Ta{eJ:Type}(n:Int)(y:Int->eJ):eJ:=
 Int.rec (motive:=λ_=>eJ) (λm=>rf m λm=>y (.ofNat m)) (λm=>rf m λm=>y (.negSucc m)) n
def es{α:Type}(k:List (Nat×α)):Nat->Option α:=
 List.rec (motive:=λ_=>Nat->Option α) (λ_=>none) (λp _ ai T=>Prod.rec (motive:=λ_=>Option α) (λF b=>bV (Nat.beq F T) (some b) (ai T)) p) k
def R.set{α:Type}(t:R α)(i:Nat)(F:Option α):R α:=R.sI (i+1) t i F
def R.ofList{α:Type}:List α->Nat->R α->R α
 |[],_,t=>t
 |F::k,i,t=>jS (t.set i (some F)) λhh=>ofList k (i+1) hh
def R.k3{α:Type}(t:R α):Nat->Nat->Option (List α)
 |_,0=>some []
 |V,n+1=>match t.get V with
  |none=>none
  |some F=>match k3 t (V+1) n with
   |none=>none
   |some k=>some (F::k)
def sE{α:Type}(k:List α):Nat->Option α:=
 List.rec (motive:=λ_=>Nat->Option α) (λ_=>none) (λF _ ai i=>Nat.rec (motive:=λ_=>Option α) (some F) (λT _=>ai T) i) k
inductive D where
 |bool (b:Bool)
 |int (y:IntKind) (n:Int)
 |str (s:List Nat)
 |ptr (b V:Nat)
 |cF
 |slice (b V len cap:Nat)
 |fc (b V len bs:Nat)
 |aT
 |map (m:Nat)
 |mv
 |func (fn:Fn) (first fT:List D)
 |nilFunc
 |iface (t:Nat) (v:D)
 |nilIface
 |agg (cs:List D)
 |tuple (br:List D)
 deriving Inhabited
def D.cells:D->List D
 | .agg cs=>cs
 |v=>[v]
def undef:D:= .tuple []
def CE{α eJ:Type}(f:α->Option eJ):List α->Option (List eJ)
 |[]=>some []
 |F::k=>match f F with
  |none=>none
  |some b=>match CE f k with
   |none=>none
   |some r=>some (b::r)
def CN:Nat->Value->Option D
 |0,_=>none
 |n+1,v=>match v with
  | .bool b=>some (.bool b)
  | .int y n=>some (.int y n)
  | .string s=>some (.str (s.data.toList.map (·.toNat)))
  | .pointer none=>some .cF
  | .slice none 0 0=>some .aT
  | .map none=>some .mv
  | .func (.func f) ⟨[]⟩ ⟨[]⟩=>some (.func (.func f) [] [])
  | .nilFunc=>some .nilFunc
  | .iface t v=>match CN n v with|some F=>some (.iface t F)|none=>none
  | .nilIface=>some .nilIface
  | .agg cs=>match CE (CN n) cs.toList with|some k=>some (.agg k)|none=>none
  | .tuple cs=>match CE (CN n) cs.toList with|some k=>some (.tuple k)|none=>none
  |_=>none
def Fk(v:Value):Option D:=CN 20 v
inductive Rh where
 |fn (fn:Fn) (fT:List D)
 |collected (r:Nat)
structure h0 where
 target:Rh
 args:List D
inductive oP where
 |own|marked|grow (fz:List Nat)|kq
 deriving Inhabited
inductive af where
 |cells (c:R D) (size:Nat) (st:oP)
 |map (ca:List (D×D×Nat)) (fa:Nat)
 |look (ca:List (D×D))
 |pm (s:List Nat) (pos:Nat)
 |AF (m:Option Nat) (wx:Nat) (seen:List Nat) (aiJ:Nat)
 |Ij (m wx n:Nat) (cO:List Nat) (st:Nat) (gQ:Option Nat)
 |loop (state:LoopState) (pending:Option Code) (fn:Nat) (n ao:Nat) (H:R D) (params:List Nat) (assign body:Code) (defers:Nat)
 |deferred (ql:Option (List h0))
structure aL where
 P:Program
 G:R af
 a6:Nat
 hu:Nat->List D->Option D
 pf:Nat
def U(C:aL)(h:R af)(b:Nat):Option af:=
 bV (Nat.blt b C.a6) (C.G.get b) (h.get (Nat.sub b C.a6))
def bi(C:aL)(h:R af)(b:Nat)(V:Option af):R af:=h.set (Nat.sub b C.a6) V
def kM(C:aL)(b:Nat):Bool:=Nat.ble C.a6 b
structure sR where
 v:D
 recovered:Bool
inductive ll where
 |run|returning|panicking (chain:List sR)
inductive kJ where
 |v (T:Nat)
 |t (n:Nat)
 |c (F:D)
inductive j9 where
 |E8 (x:kJ)
 |pick (c F b:kJ)
 |ep (F:kJ)
 |Cw (n:Nat) (F:kJ)
 |off (d:Nat) (x:kJ)
 |Cn (n bs:Nat) (x i:kJ)
 |Co (bs:Nat) (x i:kJ)
 |Fe (x:kJ)
 |LA (op:BinOp) (x e:kJ)
 |ext (i:Nat) (x:kJ)
 |st (n:Nat) (F v:kJ)
 |call (f:Nat) (args:List kJ)
 |iu (b5:List (Nat×Nat)) (V:Op)
 |make (b5:List (Nat×Nat)) (V:Op)
 |fo (b5:List (Nat×Nat)) (V:Op)
structure fs where
 i:Nat
 g:Option (Nat×Bool)
 op:j9
structure wR where
 uZ:List fs
 WG:List fs
 fo:Option fs
inductive dV where
 |code (c:Code)
 |inBlock (id:Nat)
 |inLoop (body:Code)
 |inScope (body:Code)
 |IL (aq:Array Oper) (ap:List (Nat×D)) (rest:List fs) (fin:List (Nat×Nat))
 |drawn (aq:Array Oper) (base:Nat) (ap:List (Nat×D)) (lH:List wR) (fin:List (Nat×Nat))
 |uf (aq:Array Oper) (ap:List (Nat×D)) (a:Nat) (rest:List fs) (fin:List (Nat×Nat))
 |AY (aq:Array Oper) (base:Nat) (ap:List (Nat×D)) (a:Nat) (lH:List wR) (fin:List (Nat×Nat))
 |inRangeFunc (k:Nat)
 |endRangeFunc (k:Nat)
 |beginRound
structure gY where
 fn:Nat
 n:Nat
 ao:Nat
 H:R D
 todo:List dV
 defers:List h0
 mode:ll
 deferred:Bool
 roundOf:Option Nat
section aq
variable(C:aL)
def jL(t:Nat):Option Nat:=match C.P.info? t with|some i=>some i.size|none=>none
def ui(t:Nat):Option D:=match C.P.info? t with|some i=>(match i.zero with|some v=>Fk v|none=>none)|none=>none
def EM(t:Nat):Option Bool:=match C.P.underlying t with
 |some (.struct _)=>some true|some (.array _ _)=>some true|some _=>some false|none=>none
def nY:List D->Nat->List D->List D
 |cs,_,[]=>cs
 |cs,V,v::k=>nY (cs.set V v) (V+1) k
def BH(IA:Nat->Option (Nat×Nat)):List D->List (Nat×D)->Option (List D)
 |cells,[]=>some cells
 |cells,(i,v)::rest=>match IA i with
  |none=>none
  |some (off,size)=>
   bV (Nat.beq v.cells.length size&&Nat.ble (off+size) cells.length) (BH IA (nY cells off v.cells) rest)<|none
def lh:Nat->List D->List D
 |0,_=>[]
 |n+1,bu=>bu++lh n bu
def yN(av:Operand->Option D):List (Nat×Operand)->Option (List (Nat×D))
 |[]=>some []
 |(i,x)::k=>match av x,yN av k with|some v,some r=>some ((i,v)::r)|_,_=>none
def qq(av:Operand->Option D):List Operand->Option (List D)
 |[]=>some []
 |x::k=>match av x,qq av k with|some v,some r=>some (v::r)|_,_=>none
def Xc(kf:List Field)(i:Nat):Option (Nat×Nat):=
 match sE kf i with
 |some f=>(match jL C f.type with|some s=>some (f.offset,s)|none=>none)
 |none=>none
def Qp:List Field->Bool
 |[]=>true
 |f::k=>(match jL C f.type with|some _=>true|none=>false)&&Qp k
def Nj(t:Nat)(kp:List (Nat×D)):Option D:=
 match ui C t with
 |none=>none
 |some bu=>match C.P.underlying t with
  |some (.struct kf)=>bV (Qp C kf.toList) (match BH (Xc C kf.toList) bu.cells kp with|some cs=>some (.agg cs)|none=>none) none
  |some (.array _ ei)=>(match jL C ei with
   |some s=>(match BH (λi=>some (i*s,s)) bu.cells kp with|some cs=>some (.agg cs)|none=>none)
   |none=>none)
  |_=>none
def Dz(t:Nat)(cs:List D)(off:Nat):Option D:=
 match EM C t,jL C t with
 |some true,some s=>some (.agg ((cs.drop off).take s))
 |some false,_=>sE cs off
 |_,_=>none
def mP:List Nat->List Nat->Bool
 |[],[]=>true
 |F::x,b::e=>Nat.beq F b&&mP x e
 |_,_=>false
def CI:List Nat->List Nat->Bool
 |_,[]=>false
 |[],_::_=>true
 |F::x,b::e=>Nat.blt F b||(Nat.beq F b&&CI x e)
def Iy(h:R af)(b V:Nat):Bool:=match U C h b with
 |some (.cells _ n .own)=>kM C b&&Nat.blt V n
 |_=>false
def CA(h:R af)(b V:Nat):Bool:=match U C h b with
 |some (.cells _ _ .kq)=>false
 |some (.cells _ n _)=>Nat.blt V n
 |_=>false
def ptrEq(h:R af)(b V dK o':Nat):Option Bool:=
 bV (Nat.beq b dK) (some (Nat.beq V o')) (bV (Iy C h b V&&CA C h dK o'||Iy C h dK o'&&CA C h b V) (some false) none)
def yu(eq:Nat->D->D->Option Bool):List Field->List D->List D->Option Bool
 |[],_,_=>some true
 |f::jE,ci,m0=>
  bV (f.name== "_") none<|
  match Dz C f.type ci f.offset,Dz C f.type m0 f.offset with
  |some F,some b=>(match eq f.type F b with
   |some true=>yu eq jE ci m0
   |some false=>some false
   |none=>none)
  |_,_=>none
def mr(y e2:IntKind):Bool:=match y,e2 with
 | .i8, .i8=>true| .i16, .i16=>true| .i32, .i32=>true| .i64, .i64=>true
 | .u8, .u8=>true| .u16, .u16=>true| .u32, .u32=>true| .u64, .u64=>true
 |_,_=>false
def GI(F b:Bool):Bool:=match F,b with|true,true=>true|false,false=>true|_,_=>false
def xI(x e:Int):Bool:=match x,e with
 | .ofNat F, .ofNat b=>Nat.beq F b
 | .negSucc F, .negSucc b=>Nat.beq F b
 |_,_=>false
def Av(x e:Int):Bool:=match x,e with
 | .ofNat F, .ofNat b=>Nat.blt F b
 | .negSucc F, .negSucc b=>Nat.blt b F
 | .negSucc _, .ofNat _=>true
 | .ofNat _, .negSucc _=>false
def jC(h:R af):Nat->Nat->D->D->Option Bool
 |0,_,_,_=>none
 |d+1,t,x,e=>
  match C.P.underlying t,x,e with
  |some .bool, .bool F, .bool b=>some (GI F b)
  |some (.int _), .int y F, .int e2 b=>bV (mr y e2) (some (xI F b)) none
  |some .string, .str F, .str b=>some (mP F b)
  |some (.pointer _), .cF, .cF=>some true
  |some (.pointer _), .cF, .ptr _ _=>some false
  |some (.pointer _), .ptr _ _, .cF=>some false
  |some (.pointer E), .ptr b V, .ptr dK o'=>
   (
    match jL C E with
    |some s=>bV (Nat.beq s 0) none (ptrEq C h b V dK o')
    |none=>none)
  |some (.interface _), .nilIface, .nilIface=>some true
  |some (.interface _), .nilIface, .iface _ _=>some false
  |some (.interface _), .iface _ _, .nilIface=>some false
  |some (.interface _), .iface MJ Q4, .iface ty Q5=>bV (Nat.beq MJ ty) (match C.P.info? MJ with
   |some i=>bV i.comparable (jC h d MJ Q4 Q5) none
   |none=>none) (some false)
  |some (.slice _), .aT, .aT=>some true
  |some (.slice _), .aT, .slice .. =>some false
  |some (.slice _), .aT, .fc .. =>some false
  |some (.slice _), .slice .., .aT=>some false
  |some (.slice _), .fc .., .aT=>some false
  |some (.map _ _), .mv, .mv=>some true
  |some (.map _ _), .mv, .map _=>some false
  |some (.map _ _), .map _, .mv=>some false
  |some (.func _ _ _), .nilFunc, .nilFunc=>some true
  |some (.func _ _ _), .nilFunc, .func .. =>some false
  |some (.func _ _ _), .func .., .nilFunc=>some false
  |some (.struct kf), .agg ci, .agg m0=>bV (C.P.stoodInHeld t) none (yu C (jC h d) kf.toList ci m0)
  |_,_,_=>none
def oJ(y:IntKind)(n:Int):Int:=
 match y with
 | .i64=>(λm:Int=>bV (decide (m<9223372036854775808)) m (m-18446744073709551616)) (n%18446744073709551616)
 | .u64=>n%18446744073709551616
 | .u8=>n%256
 |y=>y.wrap n
def qH(y:IntKind)(n:Int):Option D:=Ta n λn=>some (.int y n)
def k9(y:IntKind)(n:Int):Option D:=Ta (oJ y n) λn=>some (.int y n)
def n9(b:Bool):Option D:=bV b (some (.bool true)) (some (.bool false))
def lQ(op:BinOp):IntKind->Int->Int->Option D:=
 match op with
 | .add=>λy x e=>k9 y (x+e)
 | .sub=>λy x e=>k9 y (x-e)
 | .mul=>λy x e=>k9 y (x*e)
 | .quo=>λy x e=>bV (xI e 0) none (k9 y (x.tdiv e))
 | .rem=>λy x e=>bV (xI e 0) none (qH y (x.tmod e))
 | .and=>λy x e=>k9 y ((BitVec.ofInt y.bits x&&& BitVec.ofInt y.bits e).toNat)
 | .or=>λy x e=>k9 y ((BitVec.ofInt y.bits x|||BitVec.ofInt y.bits e).toNat)
 | .xor=>λy x e=>k9 y ((BitVec.ofInt y.bits x^^^BitVec.ofInt y.bits e).toNat)
 | .andNot=>λy x e=>k9 y ((BitVec.ofInt y.bits x&&& ~~~ BitVec.ofInt y.bits e).toNat)
 | .eql=>λ_ x e=>n9 (xI x e)
 | .neq=>λ_ x e=>n9 (!xI x e)
 | .lss=>λ_ x e=>n9 (Av x e)
 | .leq=>λ_ x e=>n9 (!Av e x)
 | .gtr=>λ_ x e=>n9 (Av e x)
 | .geq=>λ_ x e=>n9 (!Av x e)
 |_=>λ_ _ _=>none
def Jz(op:BinOp)(y:IntKind)(x e:Int):Option D:=
 bV (Av e 0) none
 (match op with
 | .shl=>k9 y (x*2^(min e.toNat y.bits))
 | .shr=>qH y (x.fdiv (2^(min e.toNat y.bits)))
 |_=>none)
def l0(op:BinOp):Bool:=match op with| .shl| .shr=>true|_=>false
def Bp(op:BinOp)(x e:List Nat):Option D:=
 match op with
 | .add=>bV (Nat.ble (x.length+e.length) 1000000000) (some (.str (x++e)))<|none
 | .eql=>n9 (mP x e)
 | .neq=>n9 (!mP x e)
 | .lss=>n9 (CI x e)
 | .leq=>n9 (CI x e||mP x e)
 | .gtr=>n9 (!(CI x e||mP x e))
 | .geq=>n9 (!CI x e)
 |_=>none
def bl(op:BinOp)(x e:D):Option D:=
 match x,e with
 | .int y F, .int e2 b=>bV (l0 op) (Jz op y F b) (bV (mr y e2) (lQ op y F b) none)
 |_,_=>none
def GZ(t:Nat)(uv:Bool)(x e:D):Bool:=match x,e with
 | .nilIface, .nilIface=>uv||(match C.P.underlying t with|some (.interface iV)=>iV.isEmpty|_=>false)
 | .agg _, .agg _=> !C.P.eqGuardType C.P.depth t
 |_,_=>true
def dc(h:R af)(op:BinOp)(t:Nat)(uv:Bool)(x e:D):Option D:=
 match x,e with
 | .int y F, .int e2 b=>bl op (.int y F) (.int e2 b)
 | .str F, .str b=>Bp op F b
 |x,e=>bV (GZ C t uv x e) (match op with
  | .eql=>(match jC C h 50 t x e with|some b=>n9 b|none=>none)
  | .neq=>(match jC C h 50 t x e with|some b=>n9 (!b)|none=>none)
  |_=>none) none
def gi(op:UnOp)(x:D):Option D:=
 match op,x with
 | .neg, .int y n=>lQ .sub y 0 n
 | .xor, .int y n=>lQ .xor y (if y.signed then -1 else y.max) n
 | .not, .bool b=>n9 (!b)
 |_,_=>none
def RX(aBH dst:Nat)(x:D):Option D:=
 match C.P.underlying aBH,C.P.underlying dst,x with
 |some _,some (.int y), .int _ n=>k9 y n
 |some _,some .string, .str s=>some (.str s)
 |_,_,_=>none
def nP(v:D):Option Nat:=match v with| .int _ n=>(match n with| .ofNat n=>some n|_=>none)|_=>none
def pZ(V:Option D)(m d:Nat):Option Nat:=match V with
 |some v=>(match nP v with|some n=>bV (Nat.ble n m) (some n)<|none|none=>none)
 |none=>some d
def my(len cap:Nat)(bG aN ht:Option D):Option (Nat×Nat×Nat):=
 match pZ ht cap cap with
 |none=>none
 |some m=>match (match aN,ht with
   |none,some _=>none
   |aN,_=>pZ aN m len)with
  |none=>none
  |some a=>match pZ bG a 0 with
   |none=>none
   |some k=>some (k,a,m)
def CS(av:Operand->Option D):Option Operand->Option (Option D)
 |none=>some none
 |some x=>match av x with|some v=>some (some v)|none=>none
def x3(h:R af)(b:Nat):Option Nat:=match U C h b with|some (.cells _ n (.grow _))=>some n|some (.cells _ n .kq)=>some n|_=>none
def Nq(h:R af)(t:Nat)(x:D)(bG aN ht:Option D):Option D:=
 match C.P.underlying t,x with
 |some .string, .str s=>(match ht with
  |some _=>none
  |none=>(match my s.length s.length bG aN none with
   |some (k,a,_)=>some (.str ((s.drop k).take (a-k)))
   |none=>none))
 |some (.slice ei), .slice b V len cap=>(match my len cap bG aN ht,jL C ei with
  |some (k,a,m),some bs=>some (.slice b (bV (Nat.beq m k) (V)<|V+k*bs) (a-k) (m-k))
  |_,_=>none)
 |some (.slice ei), .aT=>(match my 0 0 bG aN ht,jL C ei with
  |some _,some _=>some .aT
  |_,_=>none)
 |some (.slice ei), .fc b V len bs=>(match jL C ei,x3 C h b with
  |some x5,some n=>bV (Nat.beq bs x5&&Nat.blt 0 bs) ((match my len ((n-V)/bs) bG aN ht with
    |some (k,a,m)=>(match ht with
     |some _=>some (.slice b (bV (Nat.beq m k) (V)<|V+k*bs) (a-k) (m-k))
     |none=>bV (Nat.blt k ((n-V)/bs)||Nat.beq k 0) (some (.fc b (V+k*bs) (a-k) bs))<|none)
    |none=>none))<|none
  |_,_=>none)
 |some (.array n ei), .ptr b V=>(match my n n bG aN ht,jL C ei with
  |some (k,a,m),some bs=>some (.slice b (bV (Nat.beq m k) (V)<|V+k*bs) (a-k) (m-k))
  |_,_=>none)
 |_,_=>none
def Nn(t:Nat)(x i:D):Option D:=
 match nP i with
 |none=>none
 |some i=>match C.P.underlying t,x with
  |some (.array n ei), .agg cs=>(match jL C ei with|some bs=>bV (Nat.blt i n) (Dz C ei cs (i*bs))<|none|none=>none)
  |some .string, .str s=>(match sE s i with|some c=>some (.int .u8 (Int.ofNat c))|none=>none)
  |_,_=>none
def cellsOf(h:R af)(b:Nat):Option (R D):=match U C h b with
 |some (.cells c _ _)=>some c
 |_=>none
def aI(h:R af)(F:D):Option D:=
 match F with
 | .ptr b V=>(match cellsOf C h b with
   |some c=>c.get V
   |none=>none)
 |_=>none
def cZ(h:R af)(n:Nat)(F:D):Option D:=
 match F with
 | .ptr b V=>(match cellsOf C h b with
   |some c=>(match c.k3 V n with|some k=>some (.agg k)|none=>none)
   |none=>none)
 |_=>none
def l8(h:R af)(t:Nat)(F:D):Option D:=
 match EM C t,jL C t with
 |some true,some s=>cZ C h s F
 |some false,_=>aI C h F
 |_,_=>none
def nD:Nat->Nat->D->Bool
 |0,_,_=>false
 |n+1,t,v=>match C.P.underlying t,v with
  |some (.interface _), .iface d x=>(match C.P.info? d with|some i=>i.comparable&&nD n d x|none=>false)
  |some (.interface _), .nilIface=>true
  |some (.interface _),_=>false
  |some (.struct kf), .agg cs=>kf.toList.all λf=>f.name== "_"||(match Dz C f.type cs f.offset with|some p=>nD n f.type p|none=>false)
  |some (.struct _),_=>false
  |some (.array _ _),_=>false
  |some _,_=>true
  |none,_=>false
def ox:Nat->D->D->Bool
 |0,_,_=>false
 |n+1,x,e=>match x,e with
  | .bool F, .bool b=>GI F b
  | .int y F, .int e2 b=>mr y e2&&xI F b
  | .str F, .str b=>mP F b
  | .ptr b V, .ptr dK o'=>Nat.beq b dK&&Nat.beq V o'
  | .cF, .cF=>true
  | .nilIface, .nilIface=>true
  | .iface t v, .iface hh hj=>Nat.beq t hh&&ox n v hj
  | .agg F, .agg b=>Cu n F b
  |_,_=>false
 where
 Cu (n:Nat):List D->List D->Bool
 |[],[]=>true
 |x::F,e::b=>ox n x e&&Cu n F b
 |_,_=>false
def findKey(h:R af)(t:Nat)(y:D):List (D×D×Nat)->Nat->Option (Option (Nat×D))
 |[],_=>some none
 |(e2,v,_)::ca,i=>match jC C h 20 t y e2 with
  |some true=>some (some (i,v))
  |some false=>findKey h t y ca (i+1)
  |none=>none
def p0(h:R af)(t:Nat)(y:D):List (D×D)->Option (Option D)
 |[]=>some none
 |(e2,v)::ca=>match p0 h t y ca,jC C h 20 t y e2 with
  |some r,some false=>some r
  |some none,some true=>some (some v)
  |_,_=>none
def If(r:Option (Option D)):Option (Option (Nat×D)):=match r with
 |some (some v)=>some (some (0,v))
 |some none=>some none
 |none=>none
def Np(h:R af)(t:Nat)(m y:D)(ok:Bool):Option D:=
 match C.P.underlying t with
 |some (.map j6 BD)=>
  (match (match m with
   | .mv=>bV (nD C 20 j6 y) (some none) none
   | .map r=>(match U C h r with|some (.map ca _)=>bV (nD C 20 j6 y) (findKey C h j6 y ca 0) none|some (.look ca)=>bV (nD C 20 j6 y) (If (p0 C h j6 y ca)) none|_=>none)
   |_=>none)with
  |none=>none
  |some none=>(match ui C BD with|some bu=>some (bV (ok) (.tuple [bu, .bool false])<|bu)|none=>none)
  |some (some (_,v))=>some (bV (ok) (.tuple [v, .bool true])<|v))
 |_=>none
def No(h:R af)(t:Nat)(x:D):Option D:=
 match C.P.underlying t,x with
 |some .string, .str s=>qH .i64 (Int.ofNat s.length)
 |some (.array n _),_=>some (.int .i64 (Int.ofNat n))
 |some (.pointer co),_=>(match C.P.underlying co with|some (.array n _)=>some (.int .i64 (Int.ofNat n))|_=>none)
 |some (.slice _), .slice _ _ n _=>qH .i64 (Int.ofNat n)
 |some (.slice _), .fc _ _ n _=>qH .i64 (Int.ofNat n)
 |some (.slice _), .aT=>some (.int .i64 0)
 |some (.map _ _), .mv=>some (.int .i64 0)
 |some (.map _ _), .map r=>(match U C h r with|some (.map ca _)=>qH .i64 (Int.ofNat ca.length)|_=>none)
 |_,_=>none
def Nk(t:Nat)(x:D):Option D:=
 match C.P.underlying t,x with
 |some (.slice _), .slice _ _ _ n=>qH .i64 (Int.ofNat n)
 |some (.slice _), .aT=>some (.int .i64 0)
 |_,_=>none
def pA(ht:Bool):D->List D->Option D
 |v,[]=>some v
 | .int y x, .int _ e::k=>pA ht (.int y (bV (ht) ((bV (Av x e) (e)<|x))<|(bV (Av e x) (e)<|x))) k
 |_,_=>none
def yE:List D->Option (List Nat)
 |[]=>some []
 | .int .u8 (.ofNat n)::k=>(match yE k with|some r=>some (n%256::r)|none=>none)
 |_=>none
def nG(h:R af)(b V n:Nat):Option (List D):=
 match cellsOf C h b with
 |some c=>c.k3 V n
 |none=>bV (Nat.beq n 0) (some []) none
def Gv(h:R af)(x:D):Option D:=
 match x with
 | .aT=>some (.str [])
 | .slice b V len _=>(match nG C h b V len with|some k=>(match yE k with|some s=>some (.str s)|none=>none)|none=>none)
 | .fc b V len _=>(match nG C h b V len with|some k=>(match yE k with|some s=>some (.str s)|none=>none)|none=>none)
 |_=>none
def VL(t:Nat)(kp:Array (Nat×Operand))(_:R af)(av:Operand->Option D):Option D:=
 match yN av kp.toList with|some dp=>Nj C t dp|none=>none
def ry(V:Operand):Bool:=match V with| .const _=>true|_=>false
def P3(op:BinOp)(t:Nat)(x e:Operand)(h:R af)(av:Operand->Option D):Option D:=
 match av x,av e with|some F,some b=>dc C h op t (ry x||ry e) F b|_,_=>none
def VT(op:UnOp)(x:Operand)(_:R af)(av:Operand->Option D):Option D:=
 match av x with|some F=>gi op F|none=>none
def LR(s d:Nat)(x:Operand)(h:R af)(av:Operand->Option D):Option D:=
 match av x with
 |some F=>(match RX C s d F with
  |some v=>some v
  |none=>(match C.P.underlying s,C.P.underlying d with
   |some (.slice E),some .string=>(match C.P.underlying E with|some (.int .u8)=>Gv C h F|_=>none)
   |_,_=>none))
 |none=>none
def LU(t:Nat)(x:Operand)(_:R af)(av:Operand->Option D):Option D:=
 match C.P.underlying t,av x with
 |some (.interface _),_=>none
 |some _,some v=>some (.iface t v)
 |_,_=>none
def VP(fn:Fn)(first fT:Array Operand)(_:R af)(av:Operand->Option D):Option D:=
 match qq av first.toList,qq av fT.toList with
 |some F,some b=>(match fn with| .func f=>some (.func (.func f) F b)|_=>none)
 |_,_=>none
def VS(t:Nat)(x:Operand)(bG aN ht:Option Operand)(h:R af)(av:Operand->Option D):Option D:=
 match av x,CS av bG,CS av aN,CS av ht with
 |some v,some k,some a,some m=>Nq C h t v k a m
 |_,_,_,_=>none
def LS(t:Nat)(x:Operand)(f:Nat)(_:R af)(av:Operand->Option D):Option D:=
 match C.P.underlying t,av x with
 |some (.struct kf),some (.agg cs)=>(match sE kf.toList f with
  |some tg=>Dz C tg.type cs tg.offset
  |none=>none)
 |_,_=>none
def VQ(t:Nat)(x i:Operand)(_:R af)(av:Operand->Option D):Option D:=
 match av x,av i with|some F,some b=>Nn C t F b|_,_=>none
def VR(t:Nat)(m y:Operand)(ok:Bool)(h:R af)(av:Operand->Option D):Option D:=
 match av m,av y with|some F,some b=>Np C h t F b ok|_,_=>none
def LQ(x:Operand)(vo:Nat)(ok:Bool)(_:R af)(av:Operand->Option D):Option D:=
 match C.P.underlying vo,av x with
 |some (.interface _),_=>none
 |some _,some .nilIface=>bV (ok) ((match ui C vo with|some bu=>some (.tuple [bu, .bool false])|none=>none))<|none
 |some _,some (.iface t v)=>bV (Nat.beq t vo) (some (bV (ok) (.tuple [v, .bool true])<|v))<|bV (ok) ((match ui C vo with|some bu=>some (.tuple [bu, .bool false])|none=>none))<|none
 |_,_=>none
def VM(b:Builtin)(args:Array Operand)(dg:Array TypeId)(h:R af)(av:Operand->Option D):Option D:=
 match b,qq av args.toList with
 | .len,some [x]=>(match dg.toList with|t::_=>No C h t x|_=>none)
 | .cap,some [x]=>(match dg.toList with|t::_=>Nk C t x|_=>none)
 | .max,some (x::k)=>pA true x k
 | .min,some (x::k)=>pA false x k
 |_,_=>none
def VN(c:Call)(h:R af)(av:Operand->Option D):Option D:=
 match c with
 |⟨.builtin b,args,dg⟩=>VM C b args dg h av
 |_=>none
def agL:List Nat->Option Nat
 |[]=>none
 |F::k=>match k with|[]=>some F|_=>agL k
def VO(_:Operand)(_:R af)(_:Operand->Option D):Option D:=(λ_:aL=>none) C
def oS(V:Op):aL->R af->(Operand->Option D)->Option D:=
 match V with
 | .build t kp=>λC=>VL C t kp
 | .binOp op t x e _=>λC=>P3 C op t x e
 | .unOp op _ x=>λ_=>VT op x
 | .convert s d x=>λC=>LR C s d x
 | .makeInterface t x=>λC=>LU C t x
 | .makeFunc fn first fT=>λ_=>VP fn first fT
 | .slice t x bG aN ht=>λC=>VS C t x bG aN ht
 | .field t x f=>λC=>LS C t x f
 | .index t x i=>λC=>VQ C t x i
 | .lookup t m y ok=>λC=>VR C t m y ok
 | .typeAssert x _ vo ok=>λC=>LQ C x vo ok
 | .entry eO=>λC=>VO C eO
 | .call c=>λC=>VN C c
 |_=>λ_ _ _=>none
def CY(c:j9):Bool:=match c with
 | .ep _| .Cw _ _=>true
 | .iu _ V=>(match V with
   | .lookup .. | .convert .. | .slice .. | .call _| .binOp .. | .entry _=>true
   |_=>false)
 |_=>false
def E5(t:Nat)(_:Operand->Option D)(b:Nat):Option (D×af):=
 match ui C t with|some bu=>some (.ptr b 0, .cells (R.ofList bu.cells 0 .nil) bu.cells.length .own)|none=>none
def L2(x:Operand)(av:Operand->Option D)(b:Nat):Option (D×af):=
 match av x with|some v=>some (.ptr b 0, .cells (R.ofList v.cells 0 .nil) v.cells.length .own)|none=>none
def L3(t len:Nat)(kp:Array (Nat×Operand))(av:Operand->Option D)(b:Nat):Option (D×af):=
 match C.P.underlying t,yN av kp.toList with
 |some (.slice ei),some dp=>(match jL C ei,ui C ei with
  |some s,some bu=>bV (Nat.ble (len*s) 16777216&&Nat.beq bu.cells.length s) ((match BH (λi=>some (i*s,s)) (lh len bu.cells) dp with
    |some cs=>some (.slice b 0 len len, .cells (R.ofList cs 0 .nil) cs.length .own)
    |none=>none))<|none
  |_,_=>none)
 |_,_=>none
def q4(V:Op):aL->(Operand->Option D)->Nat->Option (D×af):=
 match V with
 | .alloc t=>λC=>E5 C t
 | .box _ x=>λ_=>L2 x
 | .buildSlice t len kp=>λC=>L3 C t len kp
 | .makeMap _ none=>λ_ _ b=>some (.map b, .map [] 0)
 |_=>λ_ _ _=>none
def qJ:List Nat->R af->R af
 |[],a=>a
 |b::k,a=>qJ k (bi C a b none)
def dT:R D->Nat->List D->R D
 |c,_,[]=>c
 |c,V,v::k=>jS (c.set V (some v)) λc=>dT c (V+1) k
def qN(v:D):Bool:=match v with| .agg _=>false| .tuple _=>false|_=>true
def ju:List D->Bool
 |[]=>true
 |v::k=>qN v&&ju k
def wU(h:R af)(b V:Nat)(br:List D):Option (R af):=
 match U C h b with
 |some (.cells c n st)=>bV (Nat.ble (V+br.length) n&&kM C b&&ju br) ((match st with
   | .own=>jS (dT c V br) λc=>jS (bi C h b (some (.cells c n .own))) λh=>some h
   | .marked=>jS (dT c V br) λc=>jS (bi C h b (some (.cells c n .marked))) λh=>some h
   | .grow fz=>jS (dT c V br) λc=>jS (bi C (qJ C fz h) b (some (.cells c n (.grow [])))) λh=>some h
   |_=>none))<|none
 |_=>none
def lG(h:R af)(bs:Nat)(x:D):Option (Nat×List D):=
 match x with
 | .aT=>some (0,[])
 | .slice b V len _=>(match nG C h b V (len*bs)with|some k=>some (len,k)|none=>none)
 | .fc b V len _=>(match nG C h b V (len*bs)with|some k=>some (len,k)|none=>none)
 | .str s=>bV (Nat.beq bs 1) (some (s.length,s.map λn=>D.int .u8 (Int.ofNat n))) none
 |_=>none
inductive eb where
 |val (v:D)
 |fq (v:D) (h:R af) (j:Nat)
 |enter (f:Nat) (args:List D)
 |known (f:Nat) (args:List D) (v:D)
 |round (k:Nat) (args:List D)
 |defer (d:h0)
 |recover
 |panic (v:D)
 |fork (k:List (D×R af))
def nQ(C:aL)(h:R af)(j:Nat)(V:af)(y:Nat->D):Option eb:=
 rf j λj=>jS (bi C h j (some V)) λh=>some (.fq (y j) h (j+1))
def uG(h:R af)(j n bs:Nat)(k:List D):Option eb:=
 bV (Nat.ble n 1048576) (nQ C h j (.cells (R.ofList k 0 .nil) k.length (.grow [])) λb=> .fc b 0 n bs)<|none
def JC(h:R af)(j:Nat)(b V len bs n:Nat)(k:List D):Option eb:=
 match U C h b with
 |some (
   .cells c size (.grow fz))=>bV (kM C b)
  (bV (
   Nat.ble (V+(len+n)*bs) size)
   (match wU C h b (V+len*bs) k with|some S'=>some (.fq (.fc b V (len+n) bs) S' j)|none=>none)
   (bV (Nat.ble (len+n) 1048576&&ju k) (bV (Nat.beq (V+len*bs) size&&Nat.beq V 0)
    (jS (dT c size k) λf9=>nQ C (bi C h b (some (.cells c size .kq))) j (.cells f9 (size+k.length) (.grow (b::fz))) λdK=> .fc dK 0 (len+n) bs)
    (match c.k3 V (len*bs)with
    |some eZ=>nQ C (bi C (qJ C fz h) b none) j (.cells (R.ofList (eZ++k) 0 .nil) (eZ++k).length (.grow [])) λdK=> .fc dK 0 (len+n) bs
    |none=>none)) none)) none
 |_=>none
def yy(h:R af)(j:Nat)(bs n:Nat)(k:List D)(s:D):Option eb:=
 match s with
 | .aT=>uG C h j n bs k
 | .slice b V len cap=>bV (Nat.ble (len+n) cap) ((match wU C h b (V+len*bs) k with|some S'=>some (.fq (.slice b V (len+n) cap) S' j)|none=>none))<|(match nG C h b V (len*bs)with
    |some eZ=>uG C h j (len+n) bs (eZ++k)
    |none=>none)
 | .fc b V len x5=>bV (Nat.beq x5 bs) (JC C h j b V len bs n k)<|none
 |_=>none
def Gx(h:R af)(bs:Nat)(s:D):Option eb:=
 match s with
 | .aT=>some (.val .aT)
 | .slice b V len cap=>bV (Nat.ble len cap) (some (.val (.slice b V len cap))) none
 | .fc b V len x5=>bV (Nat.beq x5 bs) (match x3 C h b with
   |some n=>bV (Nat.ble (V+len*bs) n) (some (.val (.fc b V len x5))) none
   |none=>none) none
 |_=>none
def Nl(h:R af)(j:Nat)(st:Nat)(s:D)(n:Nat):Option eb:=
 match C.P.underlying st with
 |some (.slice ei)=>(match C.P.info? ei,ui C ei with
  |some i,some bu=>bV (Nat.blt 0 i.size&&Nat.ble i.bytes 65536&&Nat.beq bu.cells.length i.size&&Nat.ble n 1048576) (bV (Nat.beq n 0) (Gx C h i.size s)<|yy C h j i.size n (lh n bu.cells) s)<|none
  |_,_=>none)
 |_=>none
def ajz(i:TypeInfo):Bool:=match i.zero with|some bu=>Nat.beq bu.cells.size i.size|none=>false
def Gt(h:R af)(j:Nat)(st:Nat)(s x:D):Option eb:=
 match C.P.underlying st with
 |some (.slice ei)=>(match C.P.info? ei with
  |some i=>(match lG C h i.size x with
   |some (n,k)=>bV (Nat.blt 0 i.size&&Nat.ble i.bytes 65536&&ajz i) ((bV (Nat.beq n 0) (Gx C h i.size s)<|yy C h j i.size n k s))<|none
   |none=>none)
  |none=>none)
 |_=>none
def aDE(h:R af)(j:Nat)(b V m:Nat)(k:List D):Option eb:=
 bV (Nat.beq m 0) (some (.val (.int .i64 0)))<|
 (match wU C h b V k with|some S'=>some (.fq (.int .i64 (Int.ofNat m)) S' j)|none=>none)
def setObj(h:R af)(j:Nat)(r:Nat)(V:af)(v:D):Option eb:=
 bV (kM C r) (jS (bi C h r (some V)) λh=>some (.fq v h j))<|none
def Jx(h:R af)(j:Nat)(t:Nat)(m y v:D):Option eb:=
 match C.P.underlying t,m with
 |some (.map j6 _), .map r=>(match U C h r with
  |some (.map ca fa)=>bV (nD C 20 j6 y) (match findKey C h j6 y ca 0 with
   |some (some (i,_))=>(match sE ca i with
    |some (e2,_,born)=>bV (ox 20 e2 y) (setObj C h j r (.map (ca.set i (y,v,born)) fa) undef) none
    |none=>none)
   |some none=>setObj C h j r (.map (ca++[(y,v,fa)]) (fa+1)) undef
   |none=>none) none
  |_=>none)
 |_,_=>none
def Qz(x e:D):Bool:=match x,e with
    | .bool F, .bool b=>GI F b
    | .int y F, .int e2 b=>mr y e2&&xI F b
    | .str F, .str b=>mP F b
    | .aT, .aT=>true
    | .cF, .cF=>true
    | .nilIface, .nilIface=>true
    |_,_=>false
def Fr:List D->List D->Bool
 |[],[]=>true
 |F::x,b::e=>Qz F b&&Fr x e
 |_,_=>false
def known(f:Nat)(args:List D):List (Nat×List D×D)->Option D
 |[]=>none
 |(g,cp,v)::k=>bV (Nat.beq f g&&Fr args cp) (some v)<|known f args k
def s7(f:Nat)(args:List D):Option eb:=
 match C.hu f args with
 |some v=>some (.known f args v)
 |none=>(match C.P.funcs[f]? with
  |some fn=>(match fn.body with
   |some _=>some (.enter f args)
   |none=>none)
  |none=>none)
def Bo(fn:Fn)(fT args:List D):Option eb:=
 match fn with
 | .func f=>s7 C f (args++fT)
 | .yield k=>some (.round k args)
 |_=>none
def Gu(h:R af)(t:Nat)(v:D)(name:String)(args:List D):Option eb:=
 match C.P.info? t with
 |some i=>(match i.methods.find? (·.name==name)with
  |some m=>bV m.path.isEmpty (match m.func,C.P.underlying t with
   |some (f,true),some (.pointer _)=>s7 C f (v::args)
   |some (f,false),some (.pointer E)=>(match l8 C h E v with|some x=>s7 C f (x::args)|none=>none)
   |some (f,false),some _=>s7 C f (v::args)
   |_,_=>none) none
  |none=>none)
 |none=>none
def QU(h:R af)(j s:Nat)(F v:D):Option eb:=
 match F with
 | .ptr b V=>bV (Nat.beq v.cells.length s&&Nat.blt 0 s) ((match wU C h b V v.cells with|some S'=>some (.fq undef S' j)|none=>none))<|none
 |_=>none
def Hm(t:Nat)(m y x:Operand)(h:R af)(j:Nat)(av:Operand->Option D):Option eb:=
 match av m,av y,av x with
 |some m,some y,some v=>Jx C h j t m y v
 |_,_,_=>none
def Kz(_:Nat)(_ _:Operand)(_:R af)(_:Nat)(_:Operand->Option D):Option eb:=(λ_:aL=>none) C
def Ks(_ _ _:Operand)(_:R af)(_:Nat)(_:Operand->Option D):Option eb:=(λ_:aL=>none) C
def Ky(t:Nat)(k c:Operand)(h:R af)(j:Nat)(av:Operand->Option D):Option eb:=
 match C.P.underlying t,av k,av c with
 |some (.slice ei),some k,some c=>(match nP k,nP c,C.P.info? ei,ui C ei with
  |some k,some c,some i,some bu=>bV (Nat.ble k c&&Nat.ble c 1048576&&Nat.ble i.bytes 65536&&Nat.blt 0 i.size&&Nat.beq bu.cells.length i.size) (nQ C h j (.cells (R.ofList (lh c bu.cells) 0 .nil) (c*i.size) .own) λb=> .slice b 0 k c)<|none
  |_,_,_,_=>none)
 |_,_,_=>none
def Kx(t:Nat)(r:Operand)(h:R af)(j:Nat)(av:Operand->Option D):Option eb:=
 match C.P.underlying t,av r with
 |some (.map _ _),some (.int _ _)=>nQ C h j (.map [] 0) λb=> .map b
 |_,_=>none
def KC(s d:Nat)(x:Operand)(h:R af)(j:Nat)(av:Operand->Option D):Option eb:=
 match C.P.underlying s,C.P.underlying d,av x with
 |some .string,some (.slice E),some (.str k)=>(match C.P.underlying E with
  |some (.int .u8)=>uG C h j k.length 1 (k.map λn=>D.int .u8 (Int.ofNat n))
  |_=>none)
 |some (.slice _),some (.slice E),some (.slice b V len cap)=>(match C.P.underlying E with
  |some (.int .u8)=>bV (Nat.beq s d&&kM C b) (match U C h b with
   |some (.cells c n .own)=>jS (bi C h b (some (.cells c n .marked))) λh=>some (.fq (.slice b V len cap) h j)
   |some (.cells _ _ .marked)=>some (.val (.slice b V len cap))
   |_=>none) none
  |_=>none)
 |_,_,_=>none
def KA(t:Nat)(x:Operand)(h:R af)(j:Nat)(av:Operand->Option D):Option eb:=
 match C.P.underlying t,av x with
 |some .string,some (.str s)=>nQ C h j (.pm s 0) λb=> .ptr b 0
 |some (.map _ _),some .mv=>nQ C h j (.AF none 0 [] 0) λb=> .ptr b 0
 |some (.map _ _),some (.map r)=>(match U C h r with
  |some (.map _ fa)=>nQ C h j (.AF (some r) fa [] fa) λb=> .ptr b 0
  |_=>none)
 |_,_=>none
def rB(n:Nat):List Nat->Bool
 |[]=>false
 |F::k=>Nat.beq n F||rB n k
def xn(eO:Operand)(Aw:Bool)(h:R af)(j:Nat)(av:Operand->Option D):Option eb:=
 match av eO with
 |some (.ptr r 0)=>bV (kM C r) (match U C h r,Aw with
  |some (.pm s pos),true=>bV (Nat.blt pos s.length) (match sE s pos with
    |some c=>bV (Nat.blt c 128) (setObj C h j r (.pm s (pos+1)) (.tuple [.bool true, .int .i64 (Int.ofNat pos), .int .i32 (Int.ofNat c)])) none
    |none=>none)
   (some (.val (.tuple [.bool false])))
  |some (.AF none _ _ _),false=>some (.val (.tuple [.bool false]))
  |_,_=>none) none
 |_=>none
def TX(x:Operand)(_:R af)(_:Nat)(av:Operand->Option D):Option eb:=
 match av x with|some (.iface t v)=>some (.panic (.iface t v))|_=>none
def TG(c:Call)(_:R af)(_:Nat)(av:Operand->Option D):Option eb:=
 match c with
 |⟨.value f,args,_⟩=>(match av f,qq av args.toList with
  |some (.func fn first fT),some cp=>some (.defer ⟨.fn fn fT,first++cp⟩)
  |_,_=>none)
 |_=>none
def Kl(b:Builtin)(args:Array Operand)(dg:Array TypeId)(h:R af)(j:Nat)(av:Operand->Option D):Option eb:=
 match b,qq av args.toList with
 | .append,some [s,x]=>(match dg.toList with
   |st::iW::_=>(match C.P.underlying iW with
    |some (.int _)=>(match nP x with|some n=>Nl C h j st s n|none=>none)
    |some (.slice _)=>Gt C h j st s x
    |some .string=>Gt C h j st s x
    |_=>none)
   |_=>none)
 | .recover,some []=>some .recover
 |_,_=>none
def D4(c:Call)(h:R af)(j:Nat)(av:Operand->Option D):Option eb:=
 match c with
 |⟨.value f,args,_⟩=>(match av f,qq av args.toList with
  |some (.func fn first fT),some cp=>Bo C fn fT (first++cp)
  |_,_=>none)
 |⟨.builtin b,args,dg⟩=>Kl C b args dg h j av
 |⟨.invoke r name,args,_⟩=>(match av r,qq av args.toList with
  |some (.iface t v),some cp=>Gu C h t v name cp
  |_,_=>none)
def n8(V:Op):aL->R af->Nat->(Operand->Option D)->Option eb:=
 match V with
 | .mapUpdate t m y x=>λC=>Hm C t m y x
 | .insert t m y x=>λC=>Hm C t m y x
 | .mapEntry t m y=>λC=>Kz C t m y
 | .entryStore _ m s x=>λC=>Ks C m s x
 | .makeSlice t k c=>λC=>Ky C t k c
 | .makeMap t (some r)=>λC=>Kx C t r
 | .convert s d x=>λC=>KC C s d x
 | .range t x=>λC=>KA C t x
 | .next eO Aw=>λC=>xn C eO Aw
 | .panic x=>λ_=>TX x
 | .defer c=>λ_=>TG c
 | .call c=>λC=>D4 C c
 |_=>λ_ _ _ _=>none
end aq
def lw(x:kJ):List (Nat×D)->R D->Option D:=
 match x with
 | .v T=>λap _=>es ap T
 | .t n=>λ_ H=>H.get n
 | .c F=>λ_ _=>some F
def BE(ap:List (Nat×D))(H:R D):List kJ->Option (List D)
 |[]=>some []
 |x::k=>match lw x ap H with
  |none=>none
  |some v=>match BE ap H k with
   |none=>none
   |some r=>some (v::r)
def jD(b5:List (Nat×Nat))(ap:List (Nat×D))(H:R D)(V:Operand):Option D:=match V with
 | .tmp t=>(match es b5 t with|some T=>es ap T|none=>H.get t)
 | .const v=>Fk v
 | .global g=>some (.ptr g 0)
 | .func f=>some (.func (.func f) [] [])
def hk(d:Nat)(v:D):Option D:=match v with| .ptr b V=>some (.ptr b (V+d))|_=>none
def Re(c:D)(F b:kJ)(ap:List (Nat×D))(H:R D):Option D:=match c with
 | .bool c=>bV c (lw F ap H) (lw b ap H)
 |_=>none
def MX(n bs:Nat)(x:D)(i:Nat):Option D:=match x with| .ptr b V=>bV (Nat.blt i n) (some (.ptr b (V+i*bs))) none|_=>none
def C8(bs:Nat)(x:D)(i:Nat):Option D:=match x with
 | .slice b V len _=>bV (Nat.blt i len) (some (.ptr b (V+i*bs))) none
 | .fc b V len _=>bV (Nat.blt i len) (some (.ptr b (V+i*bs))) none
 |_=>none
def sO(v:D):Option D:=match v with
 | .ptr b V=>some (.ptr b V)
 | .func fn F b=>(match fn with| .func f=>some (.func (.func f) F b)| .yield f=>some (.func (.yield f) F b)|_=>none)
 | .iface t v=>some (.iface t v)
 |_=>none
def n3(i:Nat)(v:D):Option D:=match v with| .tuple br=>sE br i|_=>none
def g4(V:j9):aL->R af->List (Nat×D)->R D->Option D:=
 match V with
 | .E8 x=>λ_ _=>lw x
 | .pick c F b=>λ_ _ ap H=>(match lw c ap H with|some c=>Re c F b ap H|none=>none)
 | .ep F=>λC h ap H=>(match lw F ap H with|some F=>aI C h F|none=>none)
 | .Cw n F=>λC h ap H=>(match lw F ap H with|some F=>cZ C h n F|none=>none)
 | .off d x=>λ_ _ ap H=>(match lw x ap H with|some F=>hk d F|none=>none)
 | .Cn n bs x i=>λ_ _ ap H=>(match lw x ap H with|some F=>(match lw i ap H with|some i=>(match nP i with|some i=>MX n bs F i|none=>none)|none=>none)|none=>none)
 | .Co bs x i=>λ_ _ ap H=>(match lw x ap H with|some F=>(match lw i ap H with|some i=>(match nP i with|some i=>C8 bs F i|none=>none)|none=>none)|none=>none)
 | .Fe x=>λ_ _ ap H=>(match lw x ap H with|some F=>sO F|none=>none)
 | .LA op x e=>λ_ _ ap H=>(match lw x ap H with|some F=>(match lw e ap H with|some b=>bl op F b|none=>none)|none=>none)
 | .ext i x=>λ_ _ ap H=>(match lw x ap H with|some F=>n3 i F|none=>none)
 | .iu b5 V=>λC h ap H=>oS V C h (jD b5 ap H)
 |_=>λ_ _ _ _=>none
def o0(V:j9):aL->Nat->List (Nat×D)->R D->Option (D×af):=
 match V with
 | .make b5 V=>λC b ap H=>q4 V C (jD b5 ap H) b
 |_=>λ_ _ _ _=>none
def ie(V:j9):aL->R af->Nat->List (Nat×D)->R D->Option eb:=
 match V with
 | .st n F v=>λC h j ap H=>(match lw F ap H with|some F=>(match lw v ap H with|some v=>QU C h j n F v|none=>none)|none=>none)
 | .call f args=>λC _ _ ap H=>(match BE ap H args with|some cp=>s7 C f cp|none=>none)
 | .fo b5 V=>λC h j ap H=>n8 V C h j (jD b5 ap H)
 |_=>λ_ _ _ _ _=>none
inductive ajR where|iu|make|fo
def nn(V:j9):ajR:=match V with
 | .st .. => .fo| .call .. => .fo| .fo .. => .fo
 | .make .. => .make
 |_=> .iu
def Qa(V:j9)(C:aL)(h:R af)(j:Nat)(ap:List (Nat×D))(H:R D):Option eb:=
 rf j λj=>(match o0 V C j ap H with|some (v,cV)=>jS (bi C h j (some cV)) λh=>some (.fq v h (j+1))|none=>none)
def fB(m i:Nat):Bool:=Nat.beq (Nat.mod (Nat.div m (Nat.pow 2 i)) 2) 1
def nv(b5:List (Nat×Nat))(V:Operand):Option kJ:=match V with
 | .tmp t=>(match es b5 t with|some T=>some (.v T)|none=>some (.t t))
 | .const v=>(match Fk v with|some F=>some (.c F)|none=>none)
 | .global g=>some (.c (.ptr g 0))
 | .func f=>some (.c (.func (.func f) [] []))
def IV(b5:List (Nat×Nat)):List Operand->Option (List kJ)
 |[]=>some []
 |x::k=>match nv b5 x,IV b5 k with|some v,some r=>some (v::r)|_,_=>none
def awz(C:aL)(s d:Nat):Bool:=match C.P.underlying s,C.P.underlying d with
 |some .string,some (.slice _)=>true
 |some (.slice _),some (.slice _)=>true
 |_,_=>false
def aww(C:aL)(t:Nat):Bool:=match C.P.underlying t with|some (.int _)=>true|_=>false
def mb(C:aL)(b5:List (Nat×Nat))(V:Op):Option j9:=
 match V with
 | .move x| .assign x=>(match nv b5 x with|some x=>some (.E8 x)|none=>none)
 | .pick c F b=>(match nv b5 c,nv b5 F,nv b5 b with|some c,some F,some b=>some (.pick c F b)|_,_,_=>none)
 | .load t F=>(match nv b5 F,EM C t,jL C t with
   |some F,some true,some s=>some (.Cw s F)
   |some F,some false,_=>some (.ep F)
   |_,_,_=>none)
 | .fieldAddr s x f=>(match C.P.underlying s,nv b5 x with
   |some (.struct kf),some x=>(match sE kf.toList f with
    |some tg=>(match jL C tg.type with|some bu=>bV (Nat.beq bu 0) (none)<|some (.off tg.offset x)|none=>none)
    |none=>none)
   |_,_=>none)
 | .indexAddr t x i=>(match C.P.underlying t,nv b5 x,nv b5 i with
   |some (.array n ei),some x,some i=>(match jL C ei with|some bs=>some (.Cn n bs x i)|none=>none)
   |some (.slice ei),some x,some i=>(match jL C ei with|some bs=>some (.Co bs x i)|none=>none)
   |_,_,_=>none)
 | .nilCheck x=>(match nv b5 x with|some x=>some (.Fe x)|none=>none)
 | .binOp op t x e I0=>bV (aww C t) ((match nv b5 x,nv b5 e with|some x,some e=>some (.LA op x e)|_,_=>none))<|some (.iu b5 (.binOp op t x e I0))
 | .extract x i=>(match nv b5 x with|some x=>some (.ext i x)|none=>none)
 | .store t F x=>(match nv b5 F,nv b5 x,jL C t with|some F,some x,some s=>some (.st s F x)|_,_,_=>none)
 | .call ⟨.value (.func f),args,dg⟩=>(match IV b5 args.toList with|some cp=>some (.call f cp)|none=>none)
 | .call ⟨.builtin b,args,dg⟩=>(match b with
   | .len| .cap| .max| .min=>some (.iu b5 (.call ⟨.builtin b,args,dg⟩))
   |_=>some (.fo b5 (.call ⟨.builtin b,args,dg⟩)))
 | .call c=>some (.fo b5 (.call c))
 | .convert s d x=>bV (awz C s d) (some (.fo b5 (.convert s d x)))<|some (.iu b5 (.convert s d x))
 | .alloc t=>some (.make b5 (.alloc t))
 | .box t x=>some (.make b5 (.box t x))
 | .buildSlice t k p=>some (.make b5 (.buildSlice t k p))
 | .makeMap t none=>some (.make b5 (.makeMap t none))
 | .makeMap t (some r)=>some (.fo b5 (.makeMap t (some r)))
 | .mapUpdate t m y x=>some (.fo b5 (.mapUpdate t m y x))
 | .insert t m y x=>some (.fo b5 (.insert t m y x))
 | .mapEntry t m y=>some (.fo b5 (.mapEntry t m y))
 | .entryStore t m s x=>some (.fo b5 (.entryStore t m s x))
 | .makeSlice t k c=>some (.fo b5 (.makeSlice t k c))
 | .range t x=>some (.fo b5 (.range t x))
 | .next i s=>some (.fo b5 (.next i s))
 | .panic x=>some (.fo b5 (.panic x))
 | .defer c=>some (.fo b5 (.defer c))
 |V=>some (.iu b5 V)
def w9(T:Nat):List (Nat×Nat)->Option Nat
 |[]=>none
 |(t,i)::k=>bV (Nat.beq i T) (some t)<|w9 T k
def JI(el:List (Nat×Nat))(g:Option (Nat×Bool)):Option (Option (Nat×Bool)):=match g with
 |none=>some none
 |some (T,l4)=>(match w9 T el with
  |some t=>(match es el t with
   |some pW=>bV (Nat.beq T pW) (some (some (T,l4)))<|none
   |none=>none)
  |none=>none)
def yw(V:Oper)(i:Nat)(el:List (Nat×Nat)):List (Nat×Nat):=match V.dst with|some d=>(d,i)::el|none=>el
def NR(n:Nat)(V:Oper):Bool:=match V.dst with|some d=>Nat.blt d n|none=>true
def AK(C:aL)(ao:Nat)(b5:List (Nat×Nat))(V:Operand):Bool:=match V with
 | .tmp t=>(match es b5 t with|some _=>true|none=>fB ao t)
 | .global g=>Nat.blt g C.pf
 |_=>true
def Fm(C:aL)(ao:Nat)(b5:List (Nat×Nat)):List Operand->Bool
 |[]=>true
 |x::k=>AK C ao b5 x&&Fm C ao b5 k
def tc(C:aL)(n ao:Nat):List Oper->Nat->List (Nat×Nat)->Option (List fs)
 |[],_,_=>some []
 |V::k,i,el=>rf i λi=>match JI el V.guard,mb C el V.op with
  |some g,some op=>bV (NR n V&&Fm C ao el V.op.operands.toList) (match tc C n ao k (i+1) (yw V i el)with|some r=>some (⟨i,g,op⟩::r)|none=>none) none
  |_,_=>none
def lx(ao:Nat):List Oper->Nat->List (Nat×Nat)
 |[],_=>[]
 |V::k,i=>match V.dst with
  |some d=>bV (fB ao d) ((i,d)::lx ao k (i+1))<|lx ao k (i+1)
  |none=>lx ao k (i+1)
def dstsOf:List Oper->List Nat
 |[]=>[]
 |V::k=>match V.dst with|some d=>d::dstsOf k|none=>dstsOf k
structure Ry where
 rest:List fs
 fin:List (Nat×Nat)
def L7(C:aL)(n:Nat)(aq:Array Oper)(ao:Nat):Option Ry:=
 match tc C n ao aq.toList 0 []with
 |some cs=>some ⟨cs,lx ao aq.toList 0⟩
 |none=>none
def Iv(V:Operand)(m:Nat):Nat:=match V with| .tmp t=>Nat.lor m (Nat.pow 2 t)|_=>m
def Iw(k:List Operand):Nat:=k.foldr Iv 0
def JW(V:Oper):Nat:=match V.dst with|some d=>Nat.pow 2 d|none=>0
def Om(el:List (Nat×Nat))(g:Option (Nat×Bool)):Nat:=match g with
 |none=>0
 |some (T,_)=>(match w9 T el with|some t=>Nat.pow 2 t|none=>0)
def DR(iV:List (Nat×Nat))(E:Edge)(m:Nat):Nat:=
 bV (fB m E.on) (m)<|bV (Region.binds .any E) ((match es iV E.on with|some y=>Nat.lor (Nat.lor m y) (Nat.pow 2 E.on)|none=>m))<|m
structure gD where
 i:Nat
 m:Nat
 r:Nat
 w:Nat
def CH:List Oper->Nat->List (Nat×Nat)->List (Nat×Nat)->List gD
 |[],_,_,_=>[]
 |V::k,i,el,iV=>rf i λi=>rf (V.after.toList.foldr (DR iV) 0) λm=>
  ⟨i,m,Nat.lor (Iw V.op.operands.toList) (Om el V.guard),JW V⟩::CH k (i+1) (yw V i el) ((i,m)::iV)
def Qq(F b:gD):Bool:=
 fB b.m F.i||(Nat.beq (Nat.land F.w (Nat.lor b.r b.w)) 0&&Nat.beq (Nat.land b.w F.r) 0)
def Qs(F:gD):List gD->Bool
 |[]=>true
 |b::k=>Qq F b&&Qs F k
def Mg:List gD->Bool
 |[]=>true
 |F::k=>Qs F k&&Mg k
def KR:List gD->Bool
 |[]=>true
 |F::k=>(match k with|[]=>true|b::_=>fB b.m F.i)&&KR k
def Fl:List Oper->Nat->Bool
 |[],_=>true
 |V::k,i=>V.after.toList.all (λE=> !Region.binds .any E||Nat.blt E.on i)&&Fl k (i+1)
def vw(m:Nat):List gD->Nat
 |[]=>0
 |a::k=>bV (fB m a.i) (Nat.succ (vw m k))<|vw m k
def B5(i:Nat):List gD->Nat
 |[]=>0
 |a::k=>bV (fB a.m i) (0)<|Nat.succ (B5 i k)
structure qh where
 x:fs
 bG:Nat
 aN:Nat
def ou(V:j9):Bool:=match nn V with| .fo=>true|_=>false
def Hu:List gD->List fs->List (gD×fs)
 |p::dp,c::cs=>bV (ou c.op) ((p,c)::Hu dp cs)<|Hu dp cs
 |_,_=>[]
def Ic(aD:List gD):List gD->List fs->List qh
 |p::dp,c::cs=>bV (ou c.op) (Ic aD dp cs)<|⟨c,vw p.m aD,B5 p.i aD⟩::Ic aD dp cs
 |_,_=>[]
def uo(y:Nat):List qh->List fs
 |[]=>[]
 |k::fy=>bV (Nat.beq k.bG y) (k.x::uo y fy)<|uo y fy
def Fx(y:Nat):List qh->List fs
 |[]=>[]
 |k::fy=>bV (Nat.blt k.bG y&&Nat.ble y k.aN&&CY k.x.op) (k.x::Fx y fy)<|Fx y fy
def AG(fy:List qh):Nat->List (gD×fs)->List wR
 |y,[]=>[⟨uo y fy,Fx y fy,none⟩]
 |y,(_,ae)::k=>⟨uo y fy,Fx y fy,some ae⟩::AG fy (y+1) k
def rg:List (gD×fs)->List gD
 |[]=>[]
 |(p,_)::k=>p::rg k
structure Rx where
 lH:List wR
 fin:List (Nat×Nat)
def L6(C:aL)(n:Nat)(aq:Array Oper)(ao:Nat):Option Rx:=
 match tc C n ao aq.toList 0 []with
 |none=>none
 |some cs=>(λall=>(λaD=>bV (Fl aq.toList 0&&Mg all&&KR (rg aD)) (some ⟨AG (Ic (rg aD) all cs) 0 aD,lx ao aq.toList 0⟩)<|none) (Hu all cs)) (CH aq.toList 0 [] [])
def ac0:List Oper->Nat->Nat->Nat
 |[],_,r=>r
 |V::k,acz,r=>ac0 k (Nat.lor acz (JW V)) ((λrd=>Nat.lor r (Nat.xor rd (Nat.land rd acz))) (Iw V.op.operands.toList))
def kC:Code->Nat
 | .region _ aq _=>ac0 aq.toList 0 0
 | .seq F b=>Nat.lor (kC F) (kC b)
 | .cond c F b=>Iv c (Nat.lor (kC F) (kC b))
 | .block _ b=>kC b
 | .loop b=>kC b
 | .scope b=>kC b
 | .rangeFunc f _ F b=>Iv f (Nat.lor (kC F) (kC b))
 |_=>0
def oD(k:List ResultVar):Nat:=k.foldr (λx r=>match x with| .tmp t=>Nat.lor r (Nat.pow 2 t)| .cell F _=>Nat.lor r (Nat.pow 2 F)) 0
def mc(C:aL)(ao:Nat):Code->Bool
 | .seq F b=>mc C ao F&&mc C ao b
 | .cond c F b=>AK C ao [] c&&(mc C ao F&&mc C ao b)
 | .block _ b=>mc C ao b
 | .loop b=>mc C ao b
 | .scope b=>mc C ao b
 | .rangeFunc f _ F b=>AK C ao [] f&&(mc C ao F&&mc C ao b)
 |_=>true
def AO(ao:Nat):List ResultVar->Bool
 |[]=>true
 | .tmp t::k=>fB ao t&&AO ao k
 | .cell F _::k=>fB ao F&&AO ao k
end
end Go.ba
@[match_pattern]abbrev Go.ba.D.Z(x:Int):Go.ba.D:=.int .i64 x
@[match_pattern]abbrev Go.ba.D.zF:Go.ba.D:=.bool false
@[match_pattern]abbrev Go.ba.D.zT:Go.ba.D:=.bool true
namespace Go.ba
@[simp] def ff{α:Type _}(F b:α):bV true F b=F:=rfl
@[simp] def ls{α:Type _}(F b:α):bV false F b=b:=rfl
def fF{α:Type _}(c:Bool)(F b:α):bV c F b=if c=true then F else b:=by cases c<;>rfl
def h1{α:Type _}(x e:Nat)(F b:α):bV (Nat.beq x e) F b=if x=e then F else b:=by
 rw[fF];by_cases a:x=e
 ·rw[Zp a,Zp (Nat.beq_eq▸a)]
 ·rw[Zh a,Zh (λE=>a (Zl E))]
@[simp] def e5{α:Type _}(c:Bool)(F:Option α)(v:α):bV c F none=some v↔c=true/\F=some v:=by cases c<;>simp
@[simp] def mE{eJ:Type}(n:Nat)(y:Nat->eJ):rf n y=y n:=by cases n<;>rfl
@[simp] def G1{eJ:Type}(n:Int)(y:Int->eJ):Ta n y=y n:=by
  cases n with
  |ofNat m=>exact mE m λm=>y (.ofNat m)
  |negSucc m=>exact mE m λm=>y (.negSucc m)
@[simp] def hv{α eJ:Type}(t:R α)(y:R α->eJ):jS t y=y t:=by cases t<;>rfl
@[simp] def aoL{α:Type}(T:Nat):es ([]:List (Nat×α)) T=none:=rfl
def r4{α:Type}(F:Nat)(b:α)(k:List (Nat×α))(T:Nat):es ((F,b)::k) T=if F=T then some b else es k T:=by
 show bV (Nat.beq F T) (some b) (es k T)=_
 rw[h1]
@[simp] def qL{α:Type}(k:List α):∀i,sE k i=k[i]? :=by
  induction k with
  |nil=>intro i;rfl
  |cons F k ai=>intro i;cases i with
   |zero=>rfl
   |succ T=>exact ai T
namespace R
variable{α:Type}
@[simp] def aDK(i:Nat):(R.nil:R α).get i=none:=rfl
@[simp] def aDL(v:Option α)(k r:R α):(R.node v k r).get 0=v:=rfl
def BL(v:Option α)(k r:R α)(T:Nat):(R.node v k r).get (T+1)=if T%2=0 then k.get (T/2)else r.get (T/2):=by
 show bV (Nat.beq (T%2) 0) (k.get (T/2)) (r.get (T/2))=_
 rw[h1]
def aBg(f:Nat)(F:Option α):sI (f+1) R.nil 0 F= .node F .nil .nil:=rfl
def aBf(f T:Nat)(F:Option α):sI (f+1) R.nil (T+1) F=
 if T%2=0 then .node none (sI f .nil (T/2) F) .nil else .node none .nil (sI f .nil (T/2) F):=by
 show bV (Nat.beq (T%2) 0) (jS (sI f .nil (T/2) F) λbM=>R.node none bM R.nil) (jS (sI f .nil (T/2) F) λh7=>R.node none R.nil h7)=_
 rw[h1,hv,hv]
def aBi(f:Nat)(v:Option α)(k r:R α)(F:Option α):sI (f+1) (.node v k r) 0 F= .node F k r:=rfl
def aBh(f T:Nat)(v:Option α)(k r:R α)(F:Option α):sI (f+1) (.node v k r) (T+1) F=
 if T%2=0 then .node v (sI f k (T/2) F) r else .node v k (sI f r (T/2) F):=by
 show bV (Nat.beq (T%2) 0) (jS (sI f k (T/2) F) λbM=>R.node v bM r) (jS (sI f r (T/2) F) λh7=>R.node v k h7)=_
 rw[h1,hv,hv]
def ar4:∀(f:Nat) (t:R α) (i T:Nat) (F:Option α),i<f->(sI f t i F).get T=if i=T then F else t.get T:=by
 intro f
 induction f with
 |zero=>intro t i T F a;omega
 |succ f ai=>
  intro t i T F a
  cases i with
  |zero=>
   cases t with
   |nil=>rw[aBg];cases T with
    |zero=>simp
    |succ T=>rw[BL];simp
   |node v k r=>rw[aBi];cases T with
    |zero=>simp
    |succ T=>rw[BL,BL];simp
  |succ i=>
   have aN:i/2<f:=Zo
   cases t with
   |nil=>
    rw[aBf]
    cases T with
    |zero=>split<;>simp
    |succ T=>
     by_cases E:i%2=0
     ·rw[Zp E,BL]
      by_cases iM:T%2=0
      ·rw[Zp iM,ai _ _ _ _ aN]
       by_cases aj:i/2=T/2
       ·rw[Zp aj,Zp Zo]
       ·rw[Zh aj,Zh Zo];rfl
      ·rw[Zh iM,Zh Zo];rfl
     ·rw[Zh E,BL]
      by_cases iM:T%2=0
      ·rw[Zp iM,Zh Zo];rfl
      ·rw[Zh iM,ai _ _ _ _ aN]
       by_cases aj:i/2=T/2
       ·rw[Zp aj,Zp Zo]
       ·rw[Zh aj,Zh Zo];rfl
   |node v k r=>
    rw[aBh]
    cases T with
    |zero=>split<;>simp
    |succ T=>
     rw[BL v k r]
     by_cases E:i%2=0
     ·rw[Zp E,BL]
      by_cases iM:T%2=0
      ·rw[Zp iM,Zp iM,ai _ _ _ _ aN]
       by_cases aj:i/2=T/2
       ·rw[Zp aj,Zp Zo]
       ·rw[Zh aj,Zh Zo]
      ·rw[Zh iM,Zh iM,Zh Zo]
     ·rw[Zh E,BL]
      by_cases iM:T%2=0
      ·rw[Zp iM,Zp iM,Zh Zo]
      ·rw[Zh iM,Zh iM,ai _ _ _ _ aN]
       by_cases aj:i/2=T/2
       ·rw[Zp aj,Zp Zo]
       ·rw[Zh aj,Zh Zo]
def kN(t:R α)(i T:Nat)(F:Option α):(t.set i F).get T=if i=T then F else t.get T:=ar4 _ _ _ _ _ Zo
def Od(k:List α):∀(i:Nat) (t:R α) (T:Nat),(ofList k i t).get T=if i<=T/\T<i+k.length then k[T-i]? else t.get T:=by
 induction k with
 |nil=>intro i t T;simp only[ofList,Z3];rw[Zh Zo]
 |cons F k ai=>
  intro i t T
  simp only[ofList,hv]
  rw[ai,kN]
  by_cases E:i=T
  ·subst E;rw[Zh Zo,Zp rfl,Zp Zs];simp
  ·rw[Zh E]
   by_cases aj:i+1<=T/\T<i+1+k.length
   ·rw[Zp aj,Zp Zx]
    have:T-i=(T-(i+1))+1:=Zo
    rw[this,Z1]
   ·rw[Zh aj,Zh Zx]
def Tp(t:R α):∀(n V:Nat) (k:List α),t.k3 V n=some k->k.length=n/\∀i,i<n->t.get (V+i)=k[i]? :=by
 intro n
 induction n with
 |zero=>intro V k a;simp[k3]at a;subst a;simp
 |succ n ai=>
  intro V k a
  simp only[k3]at a
  cases bP:t.get V with
  |none=>simp[bP]at a
  |some F=>
   simp only[bP]at a
   cases Y:k3 t (V+1) n with
   |none=>simp[Y]at a
   |some r=>
    simp only[Y,Zf]at a
    subst a
    obtain⟨J,Q⟩:=ai _ _ Y
    refine⟨by simp[J],λi aN=> ?_⟩
    cases i with
    |zero=>simpa using bP
    |succ i=>rw[show V+(i+1)=V+1+i by omega,Q i Zo];simp
end R
def Xv(k:List D):∀(c:R D) (V:Nat),dT c V k=R.ofList k V c:=by
 induction k with
 |nil=>intro c V;rfl
 |cons v k ai=>intro c V;simp only[dT,R.ofList,hv];exact ai _ _
structure m4 where
 cJ:Nat
 eh:Nat
 room:Nat
 deriving Inhabited
abbrev c6:=Nat->m4
def nF(S:c6):Fn->Fn
 | .yield k=> .yield (S k).cJ
 |f=>f
def gj(s:List Nat):ByteArray:=⟨(s.map UInt8.ofNat).toArray⟩
mutual
def aO(S:c6):D->Value
 | .bool b=> .bool b
 | .int y n=> .int y n
 | .str s=> .string (gj s)
 | .ptr b V=> .pointer (some ⟨(S b).cJ,(S b).eh+V,none⟩)
 | .cF=> .pointer none
 | .slice b V len cap=> .slice (some ⟨(S b).cJ,(S b).eh+V,none⟩) len cap
 | .fc b V len bs=> .slice (some ⟨(S b).cJ,(S b).eh+V,none⟩) len (((S b).room-V)/bs)
 | .aT=> .slice none 0 0
 | .map m=> .map (some (S m).cJ)
 | .mv=> .map none
 | .func fn F b=> .func (nF S fn) (b2 S F).toArray (b2 S b).toArray
 | .nilFunc=> .nilFunc
 | .iface t v=> .iface t (aO S v)
 | .nilIface=> .nilIface
 | .agg cs=> .agg (b2 S cs).toArray
 | .tuple br=> .tuple (b2 S br).toArray
def b2(S:c6):List D->List Value
 |[]=>[]
 |v::k=>aO S v::b2 S k
end
def qn(S:c6)(k:List D):b2 S k=k.map (aO S):=by
 induction k with
 |nil=>rfl
 |cons v k ai=>simp[b2,ai]
def Of(ad:Nat->Prop):Fn->Prop
 | .yield k=>ad k
 | .func _=>True
 |_=>False
mutual
def cj(ad:Nat->Prop):D->Prop
 | .bool _=>True
 | .int _ _=>True
 | .str s=>∀x∈s,x<256
 | .ptr b _=>ad b
 | .cF=>True
 | .slice b _ _ _=>ad b
 | .fc b _ _ _=>ad b
 | .aT=>True
 | .map m=>ad m
 | .mv=>True
 | .func fn F b=>Of ad fn/\eu ad F/\eu ad b
 | .nilFunc=>True
 | .iface _ v=>cj ad v
 | .nilIface=>True
 | .agg cs=>eu ad cs
 | .tuple br=>eu ad br
def eu(ad:Nat->Prop):List D->Prop
 |[]=>True
 |v::k=>cj ad v/\eu ad k
end
def vB(ad:Nat->Prop)(k:List D):eu ad k↔∀v∈k,cj ad v:=by
 induction k with
 |nil=>simp[eu]
 |cons v k ai=>simp[eu,ai]
mutual
def Sx{S iX:c6}{ad:Nat->Prop}(a:∀b,ad b->S b=iX b):∀v,cj ad v->aO S v=aO iX v
 | .bool _,_=>rfl
 | .int _ _,_=>rfl
 | .str _,_=>rfl
 | .ptr b V,g=>by simp only[aO,a b g]
 | .cF,_=>rfl
 | .slice b V k c,g=>by simp only[aO,a b g]
 | .fc b V k c,g=>by simp only[aO,a b g]
 | .aT,_=>rfl
 | .map m,g=>by simp only[aO,a m g]
 | .mv,_=>rfl
 | .func fn F b,g=>by
   obtain⟨bK,b1,cM⟩:=g
   have E:nF S fn=nF iX fn:=by
    cases fn<;>simp only[nF]
    rw[a _ bK]
   simp only[aO,E,GQ a F b1,GQ a b cM]
 | .nilFunc,_=>rfl
 | .iface t v,g=>by simp only[aO,Sx a v g]
 | .nilIface,_=>rfl
 | .agg cs,g=>by simp only[aO,GQ a cs g]
 | .tuple br,g=>by simp only[aO,GQ a br g]
def GQ{S iX:c6}{ad:Nat->Prop}(a:∀b,ad b->S b=iX b):∀k,eu ad k->b2 S k=b2 iX k
 |[],_=>rfl
 |v::k,g=>by simp only[b2,Sx a v g.1,GQ a k g.2]
end
mutual
def pJ{ad dm:Nat->Prop}(a:∀b,ad b->dm b):∀v,cj ad v->cj dm v
 | .bool _,_=>trivial
 | .int _ _,_=>trivial
 | .str _,g=>g
 | .ptr b _,g=>a b g
 | .cF,_=>trivial
 | .slice b _ _ _,g=>a b g
 | .fc b _ _ _,g=>a b g
 | .aT,_=>trivial
 | .map m,g=>a m g
 | .mv,_=>trivial
 | .func fn F b,g=>⟨by cases fn<;>first|exact a _ g.1|exact g.1,sc a F g.2.1,sc a b g.2.2⟩
 | .nilFunc,_=>trivial
 | .iface _ v,g=>pJ a v g
 | .nilIface,_=>trivial
 | .agg cs,g=>sc a cs g
 | .tuple br,g=>sc a br g
def sc{ad dm:Nat->Prop}(a:∀b,ad b->dm b):∀k,eu ad k->eu dm k
 |[],_=>trivial
 |v::k,g=>⟨pJ a v g.1,sc a k g.2⟩
end
open Go.RowKit (Below)
structure jO(S:c6)(ad:Nat->Prop)(n ao:Nat)(H:R D)(tmps:Array Value):Prop where
 size:tmps.size=n
 val:∀t v,fB ao t=true->H.get t=some v->tmps[t]? =some (aO S v)/\cj ad v
def RB(C:aL)(fn ao:Nat):Prop:=∃f,C.P.funcs[fn]? =some f/\AO ao f.results.toList=true
def H7(c:Code):Prop:=c= .ret\/∃id,c= .exit id
def DG(S:c6):Rh->Target
 | .fn fn fT=> .fn (nF S fn) (b2 S fT).toArray
 | .collected r=> .collected (S r).cJ
def ma(S:c6)(d:h0):Deferred:=⟨DG S d.target,(b2 S d.args).toArray⟩
def asd(ad:Nat->Prop):Rh->Prop
 | .fn fn fT=>Of ad fn/\eu ad fT
 | .collected r=>ad r
def xf(ad:Nat->Prop)(d:h0):Prop:=asd ad d.target/\eu ad d.args
def Gp(st:oP)(n:Nat)(pl:m4)(bs bG aN:Nat):Prop:=match st with
 | .own=>bG=aN
 | .marked=>bG=aN\/bs<=bG
 | .grow _=>(bG=aN\/bs<=bG)/\n<=pl.room/\pl.eh+pl.room<=bs
 | .kq=>True/\n<=pl.room/\pl.eh+pl.room<=bs
def Gp.free{st:oP}{n:Nat}{pl:m4}{bs bG aN:Nat}(a:Gp st n pl bs bG aN)(kz:st≠ .kq):aN<=bG\/bs<=bG:=by
 cases st with
 |own=>exact .inl (za a.symm)
 |marked=>exact a.imp (λE=>za E.symm) id
 |grow _=>exact a.1.imp (λE=>za E.symm) id
 |kq=>exact absurd rfl kz
def mf(S:c6)(E:D×D×Nat):MapEntry:=⟨aO S E.1,aO S E.2.1,E.2.2⟩
def kr(C:aL)(S:c6)(ad:Nat->Prop)(V:af)(pl:m4)(w:World):Prop:=match V with
 | .cells c n st=>∃co ty bG aN,w.heap[pl.cJ]? =some (.cells co ty (bG,aN))/\Gp st n pl co.size bG aN/\pl.eh+n<=co.size/\
    ∀i v,c.get i=some v->co[pl.eh+i]? =some (aO S v)/\cj ad v
 | .map ca fa=>∃co,w.heap[pl.cJ]? =some (.map co fa)/\co.toList=ca.map (mf S)/\∀E∈ca,cj ad E.1/\cj ad E.2.1
 | .look ca=>∃(co:Array MapEntry) (fa:Nat) (mC:List (D×D×Nat)),w.heap[pl.cJ]? =some (.map co fa)/\co.toList=mC.map (mf S)/\(mC.map λE=>(E.1,E.2.1)).Perm ca/\∀E∈mC,cj ad E.1/\cj ad E.2.1
 | .pm s pos=>pl.eh=0/\w.heap[pl.cJ]? =some (.stringIter (gj s) pos)/\∀x∈s,x<256
 | .AF m wx seen st=>pl.eh=0/\w.heap[pl.cJ]? =some (.mapIter (m.map λb=>(S b).cJ) wx seen.toArray st)/\∀b,m=some b->ad b
 | .Ij m wx n cO st gQ=>pl.eh=0/\ad m/\∃seen:List Nat,w.heap[pl.cJ]? =some (.mapIter (some (S m).cJ) wx seen.toArray st)/\(cO.filter λb=> !seen.contains b).length<=n/\∀b,gQ=some b->agL seen=some b
 | .loop state pending fn n ao H params assign body bd=>∃tmps,w.heap[pl.cJ]? =some (.loop ⟨state,pending,fn,tmps,params.toArray,assign,body,(S bd).cJ⟩)/\jO S ad n ao H tmps/\ad bd/\
    mc C ao assign=true/\mc C ao body=true/\(∀c,pending=some c->H7 c)/\RB C fn ao
 | .deferred ql=>w.heap[pl.cJ]? =some (.deferred (ql.map λk=>k.map (ma S)))/\∀k,ql=some k->∀d∈k,xf ad d
def RR(V o':af)(b dK:Nat):Prop:=
 (∃c n f9 aP,V= .cells c n .kq/\o'= .cells f9 aP .kq)\/
 (∃c n k f9 aP,V= .cells c n (.grow k)/\o'= .cells f9 aP .kq/\dK∈k/\aP<=n)\/
 (∃c n k f9 aP,o'= .cells f9 aP (.grow k)/\V= .cells c n .kq/\b∈k/\n<=aP)
def wO(C:aL)(ad:Nat->Prop)(V:af):Prop:=(∀c n k,V= .cells c n (.grow k)->∀x∈k,ad x/\C.a6<=x)/\∀c n st,V= .cells c n st->∀i v,c.get i=some v->i<n
structure dn(C:aL)(S:c6)(ad:Nat->Prop)(h:R af)(j bm:Nat)(w:World):Prop where
 a6:C.a6<=j
 lt:∀b,ad b->b<j
 wq:∀b V,U C h b=some V->b<j
 obj:∀b V,U C h b=some V->ad b->kr C S ad V (S b) w
 sep:∀b dK V o',U C h b=some V->U C h dK=some o'->ad b->ad dK->b≠dK->C.a6<=b->(S b).cJ=(S dK).cJ->RR V o' b dK/\(S b).eh=(S dK).eh
 base:∀b V,C.a6<=b->U C h b=some V->ad b->bm<=(S b).cJ
 fz:∀b V,U C h b=some V->ad b->wO C ad V
def jN(S:c6)(ad:Nat->Prop)(av:Operand->Value)(eE:Operand->Option D)(k:List Operand):Prop:=
 ∀x∈k,∀v,eE x=some v->av x=aO S v/\cj ad v
section
variable{C:aL}{S:c6}{ad:Nat->Prop}{h:R af}{j bm:Nat}{w:World}
def Sj(s:ByteArray):gj (s.data.toList.map (·.toNat))=s:=by
 unfold gj
 rw[YH]
 have:(UInt8.ofNat∘λx:UInt8=>x.toNat)=id:=by funext x;simp
 rw[this]
 simp
def ayf{α eJ:Type}(f:α->Option eJ):∀(k:List α) (r:List eJ),CE f k=some r->r.length=k.length/\∀(i:Nat) (F:α),k[i]? =some F->∃b,r[i]? =some b/\f F=some b:=by
 intro k
 induction k with
 |nil=>intro r a;simp[CE]at a;subst a;simp
 |cons F k ai=>
  intro r a
  simp only[CE]at a
  cases cb:f F with
  |none=>simp[cb]at a
  |some b=>
   simp only[cb]at a
   cases Y:CE f k with
   |none=>simp[Y]at a
   |some h7=>
    simp only[Y,Zf]at a
    subst a
    obtain⟨J,Q⟩:=ai _ Y
    refine⟨by simp[J],λi x ae=> ?_⟩
    cases i with
    |zero=>simp at ae;subst ae;exact⟨b,Zs,cb⟩
    |succ i=>simp at ae;obtain⟨e,B,awf⟩:=Q i x ae;exact⟨e,by simpa using B,awf⟩
def ay3(S:c6)(ad:Nat->Prop):∀(n:Nat) (v:Value) (F:D),CN n v=some F->v=aO S F/\cj ad F:=by
 intro n
 induction n with
 |zero=>intro v F a;simp[CN]at a
 |succ n ai=>
  have list:∀(k:List Value) (r:List D),CE (CN n) k=some r->k=b2 S r/\eu ad r:=by
   intro k r a
   obtain⟨J,Q⟩:=ayf _ k r a
   constructor
   ·rw[qn]
    apply Y5
    intro i
    rw[Zw]
    cases ae:k[i]? with
    |none=>
     have:k.length<=i:=by simpa using ae
     rw[Z2 Zo];rfl
    |some x=>
     obtain⟨b,ag,kg⟩:=Q i x ae
     rw[ag,(ai _ _ kg).1];rfl
   ·rw[vB]
    intro v bv
    obtain⟨i,aN⟩:=ZY.1 bv
    have c2:i<k.length:=by
     have:=(Zb.1 aN).1;omega
    obtain⟨b,ag,kg⟩:=Q i k[i] (Ze c2)
    rw[aN]at ag;simp at ag;subst ag
    exact(ai _ _ kg).2
  intro v F a
  unfold CN at a
  split at a<;>(try(simp at a;subst a;simp[aO,cj,nF,b2,Of,eu];done))
  ·simp at a;subst a
   refine⟨by simp only[aO];rw[Sj], ?_⟩
   simp only[cj]
   intro x ae
   obtain⟨e,_,rfl⟩:=ZG.1 ae
   exact e.toNat_lt
  ·rename_i t v
   split at a
   ·rename_i fu aA
    simp at a;subst a
    obtain⟨E,g⟩:=ai _ _ aA
    exact⟨by simp only[aO,E],g⟩
   ·simp at a
  ·rename_i cs
   split at a
   ·rename_i k az
    simp at a;subst a
    obtain⟨E,g⟩:=list _ _ az
    exact⟨by simp only[aO];rw[<-E],g⟩
   ·simp at a
  ·rename_i cs
   split at a
   ·rename_i k az
    simp at a;subst a
    obtain⟨E,g⟩:=list _ _ az
    exact⟨by simp only[aO];rw[<-E],g⟩
   ·simp at a
  ·simp at a
def Qn{v:Value}{F:D}(a:Fk v=some F):v=aO S F/\cj ad F:=ay3 S ad _ _ _ a
def r3(b V i:Nat):(⟨b,V,none⟩:Addr).add i=⟨b,V+i,none⟩:=by unfold Addr.add;split<;>simp_all
def apo(Y:dn C S ad h j bm w){b:Nat}(ag:ad b){c:R D}(a:cellsOf C h b=some c):
 ∃co ty bG aN,w.heap[(S b).cJ]? =some (.cells co ty (bG,aN))/\∀i v,c.get i=some v->co[(S b).eh+i]? =some (aO S v)/\cj ad v:=by
 unfold cellsOf at a
 split at a
 ·rename_i f9 n st bh
  simp at a;subst a
  obtain⟨co,ty,bG,aN,J,_,_,ay⟩:=Y.obj b _ bh ag
  exact⟨co,ty,bG,aN,J,ay⟩
 ·simp at a
def ace(Y:dn C S ad h j bm w){b:Nat}(ag:ad b){c:R D}(a:cellsOf C h b=some c){V:Nat}{v:D}(bP:c.get V=some v):
 w.cell? ⟨(S b).cJ,(S b).eh+V,none⟩=some (aO S v)/\cj ad v:=by
 obtain⟨co,ty,bG,aN,J,ay⟩:=apo Y ag a
 obtain⟨bt,b4⟩:=ay V v bP
 exact⟨by simp[World.cell?,J,bt],b4⟩
def ND(Y:dn C S ad h j bm w){b:Nat}(ag:ad b){c:R D}(a:cellsOf C h b=some c){V n:Nat}{k:List D}(bP:c.k3 V n=some k):
 (loadCells ⟨(S b).cJ,(S b).eh+V,none⟩ n).run C.P w= .ok (b2 S k).toArray w/\eu ad k:=by
 obtain⟨J,Q⟩:=R.Tp _ _ _ _ bP
 have key:∀i v,k[i]? =some v->w.cell? ⟨(S b).cJ,(S b).eh+V+i,none⟩=some (aO S v)/\cj ad v:=by
  intro i v aN
  have c2:i<n:=zq (Zb.1 aN).1
  have:=ace Y ag a (V:=V+i) (v:=v) (by rw[Q i c2,aN])
  rwa[<-ZJ]at this
 constructor
 ·have az:=run_loadCells_list (P:=C.P) w ⟨(S b).cJ,(S b).eh+V,none⟩ (b2 S k) (λT v bv=>by
   rw[r3]
   rw[qn,Zw]at bv
   cases ae:k[T]? with
   |none=>simp[ae]at bv
   |some F=>simp[ae]at bv;subst bv;exact(key T F ae).1)
  have eT:(b2 S k).length=n:=by rw[qn,Zi,J]
  rw[eT]at az
  exact az
 ·rw[vB]
  intro v bv
  obtain⟨i,aN⟩:=ZY.1 bv
  exact(key i v aN).2
def aCg{t n:Nat}(a:jL C t=some n):∃i,C.P.info? t=some i/\i.size=n:=by
 unfold jL at a
 cases aN:C.P.info? t with
 |none=>simp[aN]at a
 |some i=>simp[aN]at a;exact⟨i,rfl,a⟩
def p3{t n:Nat}(a:jL C t=some n)(w:World):(sizeOf t).run C.P w= .ok n w:=by
 obtain⟨i,aN,rfl⟩:=aCg a
 simp[sizeOf,typeInfo,aN]
def FB{t:Nat}{bu:D}(a:ui C t=some bu)(S:c6)(ad:Nat->Prop)(w:World):(zeroValue t).run C.P w= .ok (aO S bu) w/\cj ad bu:=by
 unfold ui at a
 cases aN:C.P.info? t with
 |none=>simp[aN]at a
 |some i=>
  simp only[aN]at a
  cases cm:i.zero with
  |none=>simp[cm]at a
  |some v=>
   simp only[cm]at a
   obtain⟨E,g⟩:=Qn (S:=S) (ad:=ad) a
   exact⟨by simp[zeroValue,typeInfo,aN,cm,E],g⟩
def QN{t:Nat}{b:Bool}(a:EM C t=some b)(w:World):(isAgg t).run C.P w= .ok b w:=by
 unfold EM at a
 cases bc:C.P.underlying t with
 |none=>simp[bc]at a
 |some d=>
  simp only[bc]at a
  cases d<;>simp at a<;>subst a<;>simp[isAgg,run_underlying bc]
end
section
variable{C:aL}{S:c6}{ad:Nat->Prop}{h:R af}{j bm:Nat}{w:World}
def oc{el:List (Nat×Nat)}{x:Operand}{uv:kJ}(a:nv el x=some uv)(ap:List (Nat×D))(H:R D):lw uv ap H=jD el ap H x:=by
 cases x with
 |tmp t=>
  simp only[nv]at a
  cases aA:es el t with
  |none=>simp[aA]at a;subst a;simp[lw,jD,aA]
  |some T=>simp[aA]at a;subst a;simp[lw,jD,aA]
 |const v=>
  simp only[nv]at a
  cases bv:Fk v with
  |none=>simp[bv]at a
  |some F=>simp[bv]at a;subst a;simp[lw,jD,bv]
 |global g=>simp[nv]at a;subst a;rfl
 |func f=>simp[nv]at a;subst a;rfl
def aqZ{el:List (Nat×Nat)}(ap:List (Nat×D))(H:R D):∀{k:List Operand}{cs:List kJ}{br:List D},IV el k=some cs->BE ap H cs=some br->
 br.length=k.length/\∀(i:Nat) x,k[i]? =some x->∃v,br[i]? =some v/\jD el ap H x=some v:=by
 intro k
 induction k with
 |nil=>intro cs br J Q;simp[IV]at J;subst J;simp[BE]at Q;subst Q;simp
 |cons x k ai=>
  intro cs br J Q
  simp only[IV]at J
  cases ae:nv el x with
  |none=>simp[ae]at J
  |some uv=>
   cases az:IV el k with
   |none=>simp[ae,az]at J
   |some r6=>
    simp[ae,az]at J;subst J
    simp only[BE]at Q
    cases bv:lw uv ap H with
    |none=>simp[bv]at Q
    |some v=>
     cases Y:BE ap H r6 with
     |none=>simp[bv,Y]at Q
     |some r=>
      simp[bv,Y]at Q;subst Q
      obtain⟨F,b⟩:=ai az Y
      refine⟨by simp[F],λi e B=> ?_⟩
      cases i with
      |zero=>simp at B;subst B;exact⟨v,Zs,by rw[<-oc ae];exact bv⟩
      |succ i=>simp at B;simpa using b i e B
def aqX{av:Operand->Option D}:∀{k:List Operand}{br:List D},qq av k=some br->
 br.length=k.length/\∀(i:Nat) x,k[i]? =some x->∃v,br[i]? =some v/\av x=some v:=by
 intro k
 induction k with
 |nil=>intro br a;simp[qq]at a;subst a;simp
 |cons x k ai=>
  intro br a
  simp only[qq]at a
  cases ae:av x with
  |none=>simp[ae]at a
  |some v=>
   cases az:qq av k with
   |none=>simp[ae,az]at a
   |some r=>
    simp[ae,az]at a;subst a
    obtain⟨F,b⟩:=ai az
    refine⟨by simp[F],λi e B=> ?_⟩
    cases i with
    |zero=>simp at B;subst B;exact⟨v,Zs,ae⟩
    |succ i=>simp at B;simpa using b i e B
def ahb{av:Operand->Value}{eE:Operand->Option D}{k:List Operand}{br:List D}(cD:jN S ad av eE k)(J:br.length=k.length)
 (Q:∀(i:Nat) x,k[i]? =some x->∃v,br[i]? =some v/\eE x=some v):k.map av=b2 S br/\eu ad br:=by
 constructor
 ·rw[qn]
  apply Y5
  intro i
  rw[Zw,Zw]
  cases ae:k[i]? with
  |none=>
   have:k.length<=i:=by simpa using ae
   rw[Z2 Zo];rfl
  |some x=>
   obtain⟨v,bv,bz⟩:=Q i x ae
   rw[bv]
   simp[(cD x (Zn ae) v bz).1]
 ·rw[vB]
  intro v bv
  obtain⟨i,aN⟩:=ZY.1 bv
  have c2:i<k.length:=zq (Zb.1 aN).1
  obtain⟨ac,bc,bz⟩:=Q i k[i] (Ze c2)
  rw[aN]at bc;simp at bc;subst bc
  exact(cD _ (List.getElem_mem c2) v bz).2
def wW{av:Operand->Value}{eE:Operand->Option D}{F:Array Operand}{br:List D}(cD:jN S ad av eE F.toList)(a:qq eE F.toList=some br):
 F.map av=(b2 S br).toArray/\eu ad br:=by
 obtain⟨J,Q⟩:=aqX a
 obtain⟨ak,ay⟩:=ahb cD J Q
 refine⟨?_,ay⟩
 apply YY
 simp[ak]
def ajs(y:IntKind)(n:Int):oJ y n=y.wrap n:=by
 cases y<;>simp only[oJ]<;>try rfl
 simp only[fF,IntKind.wrap,IntKind.bits,IntKind.signed,Zg,Bool.true_and,ge_iff_le]
 have bD:((2:Int)^64)=18446744073709551616:=by decide
 have cG:((2:Int)^(64-1))=9223372036854775808:=by decide
 rw[bD,cG]
 by_cases a:n%18446744073709551616<9223372036854775808
 ·rw[Zp a,Zh (by simpa using a)]
 ·rw[Zh a,Zp (by simpa using a)]
@[simp] def aFa(y:IntKind)(n:Int):k9 y n=some (.int y (y.wrap n)):=by simp[k9,ajs]
@[simp] def agj(y:IntKind)(n:Int):qH y n=some (.int y n):=by simp[qH]
@[simp] def w1(b:Bool):n9 b=some (.bool b):=by cases b<;>rfl
@[simp] def GO{α:Type _}(c:Bool)(F:Option α)(v:α):bV c none F=some v↔c=false/\F=some v:=by cases c<;>simp
@[simp] def H2(x e:Int):xI x e=decide (x=e):=by
  rw[Ya,Zg]
  cases x<;>cases e
  ·exact⟨λa=>by rw[Zl a],λa=>by cases a;exact zb _⟩
  ·exact⟨(λa=>by cases a),(λa=>by cases a)⟩
  ·exact⟨(λa=>by cases a),(λa=>by cases a)⟩
  ·exact⟨λa=>by rw[Zl a],λa=>by cases a;exact zb _⟩
@[simp] def uX(x e:Int):Av x e=decide (x<e):=by
  rw[Ya,Zg]
  cases x with
  |ofNat F=>cases e with
   |ofNat b=>show Nat.blt F b=true↔(F:Int)<(b:Int);simp[Nat.blt];omega
   |negSucc b=>show false=true↔(F:Int)<Int.negSucc b;simp;omega
  |negSucc F=>cases e with
   |ofNat b=>show true=true↔Int.negSucc F<(b:Int);simp;omega
   |negSucc b=>show Nat.blt b F=true↔Int.negSucc F<Int.negSucc b;simp[Nat.blt];omega
@[simp] def agA(y e2:IntKind):mr y e2=decide (y=e2):=by cases y<;>cases e2<;>rfl
@[simp] def ao8(F b:Bool):GI F b=(F==b):=by cases F<;>cases b<;>rfl
def aof{op:BinOp}{y:IntKind}{x e:Int}{v:D}(t:TypeId)(a:lQ op y x e=some v)(aD:l0 op=false):
 (binOp op t (.int y x) (.int y e)).run C.P w= .ok (aO S v) w/\cj ad v:=by
 cases op<;>simp[lQ,l0,binOp,Op.intArith,Op.intDiv,Op.intBits,Op.intCmp]at a aD ⊢ <;>
  first
  |(subst a;simp[aO,cj];done)
  |(obtain⟨J,a⟩:=a;subst a;simp[aO,cj,J];done)
  |(subst a;exact⟨rfl,trivial⟩)
  |(subst a;refine⟨?_,trivial⟩;simp only[aO];congr 1;rw[Ya];simp;done)
def aom{op:BinOp}{y e2:IntKind}{x e:Int}{v:D}(t:TypeId)(a:Jz op y x e=some v):
 (binOp op t (.int y x) (.int e2 e)).run C.P w= .ok (aO S v) w/\cj ad v:=by
 unfold Jz at a
 simp only[uX,GO,Zc]at a
 obtain⟨J,a⟩:=a
 cases op<;>simp[binOp,Op.shift,J]at a ⊢
 all_goals(subst a;simp[aO,cj])
def abE{op:BinOp}{x e v:D}(t:TypeId)(a:bl op x e=some v):
 (binOp op t (aO S x) (aO S e)).run C.P w= .ok (aO S v) w/\cj ad v/\∃y F e2 b,x= .int y F/\e= .int e2 b:=by
 unfold bl at a
 split at a
 ·rename_i y F e2 b
  simp only[aO]
  by_cases aD:l0 op=true
  ·simp only[aD,ff]at a
   obtain⟨bD,cG⟩:=aom (C:=C) (S:=S) (ad:=ad) (w:=w) (e2:=e2) t a
   exact⟨bD,cG,_,_,_,_,rfl,rfl⟩
  ·have aD:l0 op=false:=by simpa using aD
   simp only[aD,ls,agA,e5,Zg]at a
   obtain⟨rfl,a⟩:=a
   obtain⟨bD,cG⟩:=aof (C:=C) (S:=S) (ad:=ad) (w:=w) t a aD
   exact⟨bD,cG,_,_,_,_,rfl,rfl⟩
 ·simp at a
def M5(S:c6)(ad:Nat->Prop)(P:Program)(w:World)(s:Sem Next)(v:D):Prop:=s.run P w= .ok (.value (aO S v)) w/\cj ad v
def oU{P:Program}{s:Sem Value}{v:D}(a:s.run P w= .ok (aO S v) w/\cj ad v):M5 S ad P w (do pure (.value (<-s))) v:=by
 refine⟨?_,a.2⟩
 simp[a.1]
def abG(Y:dn C S ad h j bm w){t:TypeId}(a8:EM C t=some false){F v:D}(aA:cj ad F)(a:aI C h F=some v):
 (Instr.loadAt t (aO S F)).run C.P w= .ok (aO S v) w/\cj ad v:=by
 unfold aI at a
 split at a
 ·rename_i b V
  split at a
  ·rename_i c ax
   obtain⟨J,Q⟩:=ace Y aA ax a
   refine⟨?_,Q⟩
   simp[Instr.loadAt,Instr.sureAddr,aO,loadVar,QN a8,J]
  ·simp at a
 ·simp at a
def abH(Y:dn C S ad h j bm w){t:TypeId}{n:Nat}(a8:EM C t=some true)(aD:jL C t=some n){F v:D}(aA:cj ad F)(a:cZ C h n F=some v):
 (Instr.loadAt t (aO S F)).run C.P w= .ok (aO S v) w/\cj ad v:=by
 unfold cZ at a
 split at a
 ·rename_i b V
  split at a
  ·rename_i c ax
   split at a
   ·rename_i k az
    simp at a;subst a
    obtain⟨J,Q⟩:=ND Y aA ax az
    refine⟨?_,Q⟩
    simp[Instr.loadAt,Instr.sureAddr,aO,loadVar,QN a8,p3 aD,J]
   ·simp at a
  ·simp at a
 ·simp at a
def abI(Y:dn C S ad h j bm w){t:TypeId}{F v:D}(aA:cj ad F)(a:l8 C h t F=some v):
 (Instr.loadAt t (aO S F)).run C.P w= .ok (aO S v) w/\cj ad v:=by
 unfold l8 at a
 split at a
 ·rename_i s J Q;exact abH Y J Q aA a
 ·rename_i J;exact abG Y J aA a
 ·simp at a
def lS{F b:Nat}(a:Nat.blt F b=true):F<b:=by simp[Nat.blt]at a;omega
def jQ{F b:Nat}(a:Nat.ble F b=true):F<=b:=by simpa using a
def E9{v:D}{n:Nat}(a:nP v=some n):∃y,v= .int y (Int.ofNat n):=by
 unfold nP at a
 split at a
 ·rename_i y bu
  split at a
  ·simp at a;subst a;exact⟨y,rfl⟩
  ·simp at a
 ·simp at a
def aq5{s:TypeId}{kf:Array Field}{f bu:Nat}{tg:Field}(bc:C.P.underlying s=some (.struct kf))(cb:kf.toList[f]? =some tg)
 (cm:jL C tg.type=some bu)(lZ:bu≠0){F v:D}(aA:cj ad F)(a:hk tg.offset F=some v):
 (Instr.fieldAt s (aO S F) f).run C.P w= .ok (aO S v) w/\cj ad v:=by
 unfold hk at a
 split at a
 ·rename_i b V
  simp at a;subst a
  have rp:kf[f]? =some tg:=by rw[<-cb];simp
  refine⟨?_,aA⟩
  simp[Instr.fieldAt,run_underlying bc,rp,Instr.sureAddr,aO,fieldPlace,p3 cm,lZ,r3,ZJ]
 ·simp at a
def awC{t:TypeId}{n bs i:Nat}{ei:TypeId}(bc:C.P.underlying t=some (.array n ei))(cm:jL C ei=some bs)
 {F v:D}{y:IntKind}(aA:cj ad F)(a:MX n bs F i=some v):
 (Instr.indexAt t (aO S F) (.int y (Int.ofNat i))).run C.P w= .ok (aO S v) w/\cj ad v:=by
 unfold MX at a
 split at a
 ·rename_i b V
  simp only[e5,Zf]at a
  obtain⟨J,rfl⟩:=a
  have c2:i<n:=lS J
  refine⟨?_,aA⟩
  simp[Instr.indexAt,asIntOf,run_underlying bc,Instr.sureAddr,aO,p3 cm,c2,r3,ZJ]
 ·simp at a
def awF{t:TypeId}{bs i:Nat}{ei:TypeId}(bc:C.P.underlying t=some (.slice ei))(cm:jL C ei=some bs)
 {F v:D}{y:IntKind}(aA:cj ad F)(a:C8 bs F i=some v):
 (Instr.indexAt t (aO S F) (.int y (Int.ofNat i))).run C.P w= .ok (aO S v) w/\cj ad v:=by
 unfold C8 at a
 split at a
 ·rename_i b V n _
  simp only[e5,Zf]at a
  obtain⟨J,rfl⟩:=a
  have c2:i<n:=lS J
  refine⟨?_,aA⟩
  simp[Instr.indexAt,asIntOf,run_underlying bc,aO,p3 cm,c2,r3,ZJ]
 ·rename_i b V n _
  simp only[e5,Zf]at a
  obtain⟨J,rfl⟩:=a
  have c2:i<n:=lS J
  refine⟨?_,aA⟩
  simp[Instr.indexAt,asIntOf,run_underlying bc,aO,p3 cm,c2,r3,ZJ]
 ·simp at a
def aDk{F v:D}(aA:cj ad F)(a:sO F=some v):v=F/\(∀oper:Oper,∀av:Operand->Value,∀x,oper.op= .nilCheck x->av x=aO S F->(execOp av oper).run C.P w= .ok (.value (aO S v)) w):=by
 unfold sO at a
 split at a
 ·simp at a;subst a
  refine⟨rfl,λoper av x bh ae=> ?_⟩
  simp[execOp,bh,ae,aO]
 ·split at a
  ·simp at a;subst a
   refine⟨rfl,λoper av x bh ae=> ?_⟩
   simp[execOp,bh,ae,aO,nF]
  ·simp at a;subst a
   refine⟨rfl,λoper av x bh ae=> ?_⟩
   simp[execOp,bh,ae,aO,nF]
  ·simp at a
 ·simp at a;subst a
  refine⟨rfl,λoper av x bh ae=> ?_⟩
  simp[execOp,bh,ae,aO]
 ·simp at a
def aDj{i:Nat}{F v:D}(aA:cj ad F)(a:n3 i F=some v):(Instr.extract (aO S F) i).run C.P w= .ok (aO S v) w/\cj ad v:=by
 unfold n3 at a
 split at a
 ·rename_i br
  rw[qL]at a
  refine⟨?_,(vB ad br).1 aA v (Zn a)⟩
  simp[Instr.extract,aO,qn,a]
 ·simp at a
def acY{av:Operand->Value}{eE:Operand->Option D}:∀{k:List (Nat×Operand)}{dp:List (Nat×D)},jN S ad av eE (k.map (·.2))->yN eE k=some dp->
 k.map (λx=>(x.1,av x.2))=dp.map (λx=>(x.1,aO S x.2))/\∀x∈dp,cj ad x.2:=by
 intro k
 induction k with
 |nil=>intro dp _ a;simp[yN]at a;subst a;simp
 |cons F k ai=>
  intro dp cD a
  obtain⟨i,x⟩:=F
  simp only[yN]at a
  cases ae:eE x with
  |none=>simp[ae]at a
  |some v=>
   cases az:yN eE k with
   |none=>simp[ae,az]at a
   |some r=>
    simp[ae,az]at a;subst a
    obtain⟨F,b⟩:=ai (λe B=>cD e (by simp at B ⊢;exact .inr B)) az
    obtain⟨c,d⟩:=cD x Zs v ae
    refine⟨by simp[F,c],λe B=> ?_⟩
    cases B with
    |head=>exact d
    |tail _ B=>exact b e B
def vt(S:c6)(v:D):(aO S v).cells=(b2 S v.cells).toArray:=by
 cases v<;>simp[aO,Value.cells,D.cells,b2]
def vu{v:D}(a:cj ad v):eu ad v.cells:=by
 cases v with
 |agg cs=>exact a
 |_=>exact⟨a,trivial⟩
def arm(S:c6):∀(br:List D) (cs:List D) (off y:Nat),
 ((b2 S br).zipIdx y).foldl (λ(cs:Array Value) (x:Value×Nat)=>cs.setIfInBounds (off+x.2) x.1) (b2 S cs).toArray=(b2 S (nY cs (off+y) br)).toArray:=by
 intro br
 induction br with
 |nil=>intro cs off y;rfl
 |cons v br ai=>
  intro cs off y
  simp only[b2,List.zipIdx_cons,Z0,nY]
  have:(b2 S cs).toArray.setIfInBounds (off+y) (aO S v)=(b2 S (cs.set (off+y) v)).toArray:=by
   apply YY
   simp[qn,List.map_set]
  rw[this,ai]
  rfl
def ash{cs:List D}{i:Nat}{v:D}(a:eu ad cs)(bv:cj ad v):eu ad (cs.set i v):=by
 rw[vB]at a ⊢
 intro x ae
 rcases List.mem_or_eq_of_mem_set ae with cy|cy
 ·exact a x cy
 ·rw[cy];exact bv
def asi:∀(br cs:List D) (V:Nat),eu ad cs->eu ad br->eu ad (nY cs V br):=by
 intro br
 induction br with
 |nil=>intro cs V a _;exact a
 |cons v br ai=>intro cs V a bv;exact ai _ _ (ash a bv.1) bv.2
def S1{IA Mk:Nat->Option (Nat×Nat)}(aw:∀i x,IA i=some x->Mk i=some x):∀(dp:List (Nat×D)) (cs r:List D),eu ad cs->(∀x∈dp,cj ad x.2)->
 BH IA cs dp=some r->Instr.fill Mk (b2 S cs).toArray (dp.map λx=>(x.1,aO S x.2))=some (b2 S r).toArray/\eu ad r:=by
 intro dp
 induction dp with
 |nil=>intro cs r a _ cb;simp[BH]at cb;subst cb;exact⟨rfl,a⟩
 |cons p dp ai=>
  intro cs r a bP cb
  obtain⟨i,v⟩:=p
  simp only[BH]at cb
  cases tC:IA i with
  |none=>simp[tC]at cb
  |some x=>
   obtain⟨off,size⟩:=x
   simp only[tC,e5,Zq]at cb
   obtain⟨⟨J,Q⟩,cb⟩:=cb
   have J:v.cells.length=size:=Zl J
   have Q:off+size<=cs.length:=jQ Q
   have aui:cj ad v:=bP (i,v) Zs
   obtain⟨F,b⟩:=ai (nY cs off v.cells) r (asi _ _ _ a (vu aui)) (λx ae=>bP x (by simp[ae])) cb
   refine⟨?_,b⟩
   simp only[ZP,Instr.fill,aw _ _ tC,vt]
   have eT:(b2 S v.cells).length=size:=by rw[qn,Zi,J]
   have vZ:(b2 S cs).length=cs.length:=by rw[qn,Zi]
   rw[Zh]
   ·rw[<-F]
    congr 1
    have:=arm S v.cells cs off 0
    simp
    simpa using this
   ·simp[eT,vZ];omega
def aA1{α eJ:Type}(P:Program)(w:World)(f:α->Sem eJ)(g:α->eJ):∀(k:List α),(∀F∈k,(f F).run P w= .ok (g F) w)->(k.mapM f).run P w= .ok (k.map g) w:=by
 intro k
 induction k with
 |nil=>intro _;simp
 |cons F k ai=>intro a;simp[Y7,a F Zs,ai (λb ag=>a b (by simp[ag]))]
def aCd{kf:List Field}{i:Nat}{x:Nat×Nat}(a:Xc C kf i=some x):∃f s,kf[i]? =some f/\jL C f.type=some s/\x=(f.offset,s):=by
 unfold Xc at a
 rw[qL]at a
 split at a
 ·rename_i f cb
  split at a
  ·rename_i s aD
   simp at a
   exact⟨f,s,cb,aD,a.symm⟩
  ·simp at a
 ·simp at a
def Jy{t:TypeId}{cs:List D}{off:Nat}{v:D}(bP:eu ad cs)(a:Dz C t cs off=some v):
 (part t (b2 S cs).toArray off).run C.P w= .ok (aO S v) w/\cj ad v:=by
 unfold Dz at a
 split at a
 ·rename_i s J Q
  simp at a;subst a
  constructor
  ·simp only[part,Sem.run_bind,QN J,Result.andThen_ok,ZE,p3 Q,Sem.run_pure,aO,qn]
   congr 2
   apply YY
   simp[List.map_take,List.map_drop,List.take_drop]
  ·simp only[cj]
   rw[vB]at bP ⊢
   exact λx ae=>bP x (Y8 (Y9 ae))
 ·rename_i J
  rw[qL]at a
  constructor
  ·simp[part,QN J,qn,a]
  ·exact(vB ad cs).1 bP v (Zn a)
 ·simp at a
def aoe{t:TypeId}{x i v:D}(ae:cj ad x)(a:Nn C t x i=some v):(Instr.index t (aO S x) (aO S i)).run C.P w= .ok (aO S v) w/\cj ad v:=by
 unfold Nn at a
 split at a
 ·simp at a
 ·rename_i n aF
  obtain⟨y,rfl⟩:=E9 aF
  split at a
  ·rename_i m ei cs bc
   split at a
   ·rename_i bs cm
    simp only[e5]at a
    obtain⟨J,Q⟩:=a
    have c2:=lS J
    obtain⟨ak,ay⟩:=Jy (S:=S) (w:=w) ae Q
    refine⟨?_,ay⟩
    simp[Instr.index,asIntOf,aO,run_underlying bc,c2,p3 cm,ak]
   ·simp at a
  ·rename_i s bc
   rw[qL]at a
   split at a
   ·rename_i c ax
    simp at a;subst a
    refine⟨?_,trivial⟩
    have ag:(gj s)[n]? =some (UInt8.ofNat c):=by
     show(gj s).data[n]? =_
     simp[gj,ax]
    have c2:c<256:=ae c (Zn ax)
    simp[Instr.index,asIntOf,aO,run_underlying bc,ag,YC c2]
   ·simp at a
  ·simp at a
def aoq{op:UnOp}{x v:D}(a:gi op x=some v):(Op.unary op (aO S x)).run C.P w= .ok (aO S v) w/\cj ad v:=by
 unfold gi at a
 split at a
 ·rename_i y n
  simp[lQ]at a;subst a
  exact⟨by simp[Op.unary,Op.intArith,aO],trivial⟩
 ·rename_i y n
  simp[lQ]at a;subst a
  exact⟨rfl,trivial⟩
 ·simp at a;subst a;exact⟨rfl,trivial⟩
 ·simp at a
def ay6:∀{k:List Field},Qp C k=true->∀f∈k,∃s,jL C f.type=some s:=by
 intro k
 induction k with
 |nil=>intro _ f cb;simp at cb
 |cons F k ai=>
  intro a f cb
  simp only[Qp,Zq]at a
  cases cb with
  |head=>cases aD:jL C F.type with
   |none=>simp[aD]at a
   |some s=>exact⟨s,rfl⟩
  |tail _ cb=>exact ai a.2 f cb
def an8{t:TypeId}{dp:List (Nat×D)}{v:D}(bP:∀x∈dp,cj ad x.2)(a:Nj C t dp=some v):
 (Instr.build t ((dp.map λx=>(x.1,aO S x.2)).toArray)).run C.P w= .ok (aO S v) w/\cj ad v:=by
 unfold Nj at a
 split at a
 ·simp at a
 ·rename_i bu cm
  obtain⟨EF,HZ⟩:=FB cm S ad w
  split at a
  ·rename_i kf bc
   simp only[e5]at a
   obtain⟨gf,a⟩:=a
   split at a
   ·rename_i cs is
    simp at a;subst a
    have bo:(kf.mapM λf=>do pure (f.offset, <-sizeOf f.type):Sem (Array (Nat×Nat))).run C.P w= .ok (kf.toList.map λf=>(f.offset,(jL C f.type).getD 0)).toArray w:=by
     rw[Array.mapM_eq_mapM_toList,Sem.run_map,aA1 C.P w _ (λf:Field=>(f.offset,(jL C f.type).getD 0)) _ (λf cb=>by
      obtain⟨s,aD⟩:=ay6 gf f cb
      simp[p3 aD,aD])]
     rfl
    obtain⟨F,b⟩:=S1 (S:=S) (Mk:=λi=>((kf.toList.map λf=>(f.offset,(jL C f.type).getD 0)).toArray)[i]?) (λi x ae=>by
     obtain⟨f,s,J,Q,rfl⟩:=aCd ae
     simp at J
     simp[J,Q]) dp bu.cells cs (vu HZ) bP is
    refine⟨?_,b⟩
    simp only[Instr.build,Sem.run_bind,EF,Result.andThen_ok,run_underlying bc,bo,vt,F,aO,Sem.run_pure]
   ·simp at a
  ·rename_i n ei bc
   split at a
   ·rename_i s aD
    split at a
    ·rename_i cs is
     simp at a;subst a
     obtain⟨F,b⟩:=S1 (S:=S) (Mk:=λi=>some (i*s,s)) (λ_ _ a=>a) dp bu.cells cs (vu HZ) bP is
     refine⟨?_,b⟩
     simp[Instr.build,EF,run_underlying bc,p3 aD,vt,F,aO]
    ·simp at a
   ·simp at a
  ·simp at a
end
section
variable{C:aL}{S:c6}{ad:Nat->Prop}{h:R af}{j bm:Nat}{w:World}
def ahC{F b:Nat}(aA:F<256)(ag:b<256)(a:UInt8.ofNat F=UInt8.ofNat b):F=b:=by
 have:=congrArg UInt8.toNat a
 simp at this
 omega
def Ma:∀(x e:List Nat),mP x e=true↔x=e
 |[],[]=>by simp[mP]
 |[],_::_=>by simp[mP]
 |_::_,[]=>by simp[mP]
 |F::x,b::e=>by
  simp only[mP,Zq,Ma x e,YI]
  exact⟨λ⟨a,E⟩=>⟨Zl a,E⟩,λ⟨a,E⟩=>⟨by rw[a];exact zb _,E⟩⟩
def ayd:∀{x e:List Nat},(∀F∈x,F<256)->(∀F∈e,F<256)->x.map UInt8.ofNat=e.map UInt8.ofNat->x=e:=by
 intro x
 induction x with
 |nil=>intro e _ _ a;cases e with
  |nil=>rfl
  |cons b e=>simp at a
 |cons F x ai=>
  intro e ae B a
  cases e with
  |nil=>simp at a
  |cons b e=>
   simp only[ZP,YI]at a
   rw[ahC (ae F Zs) (B b Zs) a.1,ai (λc ax=>ae c (by simp[ax])) (λc ax=>B c (by simp[ax])) a.2]
def Nx(s:List Nat):(gj s).toList=s.map UInt8.ofNat:=by
 rw[ByteArray.toList_eq];simp[gj]
def Xb{x e:List Nat}(ae:∀F∈x,F<256)(B:∀F∈e,F<256):((gj x).toList==(gj e).toList)=mP x e:=by
 rw[Ya,Ma,YZ,Nx,Nx]
 exact⟨ayd ae B,λa=>by rw[a]⟩
def aiL:∀{x e:List Nat},(∀F∈x,F<256)->(∀F∈e,F<256)->Op.bytesLess (x.map UInt8.ofNat) (e.map UInt8.ofNat)=CI x e
 |[],[],_,_=>rfl
 |[],_::_,_,_=>rfl
 |_::_,[],_,_=>rfl
 |F::x,b::e,ae,B=>by
  have aA:=ae F Zs
  have ag:=B b Zs
  have ai:=aiL (λc ax=>ae c (Zu _ ax)) (λc ax=>B c (Zu _ ax))
  simp only[ZP,Op.bytesLess,CI,ai]
  have bD:decide (UInt8.ofNat F<UInt8.ofNat b)=Nat.blt F b:=by
   rw[Ya,Zg,UInt8.lt_iff_toNat_lt]
   simp[Nat.blt,YC aA,YC ag];omega
  have cG:(UInt8.ofNat F==UInt8.ofNat b)=Nat.beq F b:=by
   rw[Ya,YZ]
   exact⟨λa=>by rw[ahC aA ag a];exact zb _,λa=>by rw[Zl a]⟩
  rw[bD,cG]
def QD(Y:dn C S ad h j bm w){b V:Nat}(ag:ad b)(a:CA C h b V=true):
 ∃c n st co ty bG aN,U C h b=some (.cells c n st)/\V<n/\w.heap[(S b).cJ]? =some (.cells co ty (bG,aN))/\Gp st n (S b) co.size bG aN/\(S b).eh+n<=co.size/\st≠ .kq:=by
 unfold CA at a
 split at a
 ·simp at a
 ·rename_i c n st kz bh
  obtain⟨co,ty,bG,aN,J,Q,ak,_⟩:=Y.obj b _ bh ag
  exact⟨c,n,st,co,ty,bG,aN,bh,lS (by simpa using a),J,Q,ak,λE=>(by subst E;first|exact kz _ bh|exact kz _ rfl|exact kz rfl|exact kz bh|simp_all)⟩
 ·simp at a
def ahM{b V:Nat}(a:Iy C h b V=true):CA C h b V=true/\C.a6<=b/\∃c n,U C h b=some (.cells c n .own):=by
 unfold Iy at a
 unfold CA
 split at a
 ·rename_i c n bh
  simp only[bh,Zq]at a ⊢
  exact⟨a.2,jQ a.1,c,n,rfl⟩
 ·simp at a
def WS{r:Nat}{co:Array Value}{ty:TypeId}{f:Nat×Nat}(a:w.heap[r]? =some (.cells co ty f)):w.shape? r=some (ty,co.size):=by
 simp[World.shape?,a]
def ait{P:Program}{p aj:Nat}{x e:Nat}{a7 b6:Array Value}{t1 ew:TypeId}{c7 J cr Q:Nat}(dS:p≠aj)
 (bD:w.heap[p]? =some (.cells a7 t1 (c7,J)))(cG:w.heap[aj]? =some (.cells b6 ew (cr,Q)))(eQ:J<=c7)(jM:x<a7.size)(io:e<b6.size)(fd:Q<=cr\/b6.size<=cr):
 (sameAddr ⟨p,x,none⟩ ⟨aj,e,none⟩).run P w= .ok false w/\(sameAddr ⟨aj,e,none⟩ ⟨p,x,none⟩).run P w= .ok false w:=by
 have bK:w.frozen? ⟨p,x,none⟩=false:=by simp[World.frozen?,bD];omega
 have b1:w.frozen? ⟨aj,e,none⟩=false:=by simp[World.frozen?,cG];omega
 have cM:w.frozen? ⟨p,a7.size,none⟩=false:=by simp[World.frozen?,bD];omega
 have jw:=WS bD
 have jY:=WS cG
 have f1:a7.size≠0:=Zo
 have fD:b6.size≠0:=Zo
 have auS:aj≠p:=λE=>dS E.symm
 constructor
 ·simp[sameAddr,dS,bK,b1,cM,noView,viewAt,jw,jY,mayBeOne,stringish,fD]
 ·simp[sameAddr,auS,bK,b1,cM,noView,viewAt,jw,jY,mayBeOne,stringish,f1,fD]
def az8(Y:dn C S ad h j bm w){b V dK o':Nat}{r:Bool}(ag:ad b)(kg:ad dK)(a:ptrEq C h b V dK o'=some r):
 (sameAddr ⟨(S b).cJ,(S b).eh+V,none⟩ ⟨(S dK).cJ,(S dK).eh+o',none⟩).run C.P w= .ok r w:=by
 unfold ptrEq at a
 rw[h1]at a
 split at a
 ·rename_i E
  subst E
  simp at a;subst a
  simp only[sameAddr,YD,ZE,Sem.run_pure]
  congr 1
  rw[Ya,YZ]
  constructor
  ·intro a;simp at a;rw[a];exact zb _
  ·intro a;rw[Zl a]
 ·rename_i dS
  simp only[e5,zg,Zq,Zf]at a
  obtain⟨a,rfl⟩:=a
  rcases a with ⟨J,Q⟩|⟨J,Q⟩
  ·obtain⟨ak,ay,c,n,bt⟩:=ahM J
   obtain⟨cX,aM,W7,a7,t1,c7,wD,bD,jM,Rf,f1,bW,_⟩:=QD Y ag ak
   obtain⟨dI,aR,aBK,b6,ew,cr,C5,cG,io,Rg,fD,cq,Wr⟩:=QD Y kg Q
   have dj:W7= .own:=by rw[bt]at bD;cases bD;rfl
   subst dj
   have T6:(S b).cJ≠(S dK).cJ:=by
    intro E
    rcases(Y.sep b dK _ _ bD cG ag kg dS ay E).1 with ⟨_,_,_,_,aj,_⟩|⟨_,_,_,_,_,aj,_⟩|⟨_,_,_,_,_,_,aj,_⟩<;>cases aj
   exact(ait T6 Rf Rg (za f1.symm) Zo Zo (fD.free Wr)).1
  ·obtain⟨ak,ay,c,n,bt⟩:=ahM J
   obtain⟨cX,aM,W7,a7,t1,c7,wD,bD,jM,Rf,f1,bW,_⟩:=QD Y kg ak
   obtain⟨dI,aR,aBK,b6,ew,cr,C5,cG,io,Rg,fD,cq,Wr⟩:=QD Y ag Q
   have dj:W7= .own:=by rw[bt]at bD;cases bD;rfl
   subst dj
   have T6:(S dK).cJ≠(S b).cJ:=by
    intro E
    rcases(Y.sep dK b _ _ bD cG kg ag (λaj=>dS aj.symm) ay E).1 with ⟨_,_,_,_,aj,_⟩|⟨_,_,_,_,_,aj,_⟩|⟨_,_,_,_,_,_,aj,_⟩<;>cases aj
   exact(ait T6 Rf Rg (za f1.symm) Zo Zo (fD.free Wr)).2
def aob{eq:Nat->D->D->Option Bool}{d:Nat}(e6:∀t x e r,cj ad x->cj ad e->eq t x e=some r->(Op.equalIn d t (aO S x) (aO S e)).run C.P w= .ok r w):
 ∀(jE:List Field) (ci m0:List D) (r:Bool),eu ad ci->eu ad m0->yu C eq jE ci m0=some r->(Op.eqFields d (b2 S ci).toArray (b2 S m0).toArray jE).run C.P w= .ok r w:=by
 intro jE
 induction jE with
 |nil=>intro ci m0 r _ _ a;simp[yu]at a;subst a;simp[Op.eqFields]
 |cons f jE ai=>
  intro ci m0 r ae B a
  simp only[yu,GO,beq_eq_false_iff_ne]at a
  obtain⟨aF,a⟩:=a
  split at a
  ·rename_i F b aA ag
   obtain⟨a7,b6⟩:=Jy (S:=S) (w:=w) ae aA
   obtain⟨bZ,cu⟩:=Jy (S:=S) (w:=w) B ag
   split at a
   ·rename_i E
    simp only[Op.eqFields,aF,ne_eq,ZH,ZE,Sem.run_bind,a7,bZ,e6 _ _ _ _ b6 cu E,Result.andThen_ok,Ys,Zy,ZC]
    exact ai ci m0 r ae B a
   ·rename_i E
    simp at a;subst a
    simp only[Op.eqFields,aF,ne_eq,ZH,ZE,Sem.run_bind,a7,bZ,e6 _ _ _ _ b6 cu E,Result.andThen_ok,Yt,Sem.run_pure]
   ·simp at a
  ·simp at a
def RY(Y:dn C S ad h j bm w):∀(d lU:Nat) (t:Nat) (x e:D) (r:Bool),d<=lU->cj ad x->cj ad e->jC C h d t x e=some r->
 (Op.equalIn lU t (aO S x) (aO S e)).run C.P w= .ok r w:=by
 intro d
 induction d with
 |zero=>intro lU t x e r _ _ _ a;simp[jC]at a
 |succ d ai=>
  intro lU t x e r aE fG vE a
  obtain⟨lU,rfl⟩:∃E,lU=E+1:=⟨lU-1,Zo⟩
  unfold jC at a
  split at a
  ·rename_i bc;simp at a;subst a;simp[Op.equalIn,run_underlying bc,aO]
  ·rename_i bc;simp at a;obtain⟨rfl,rfl⟩:=a;simp[Op.equalIn,run_underlying bc,aO];rfl
  ·rename_i F b bc
   simp at a;subst a
   rw[aO,aO,run_equalIn_string w lU t _ _ bc,Xb fG vE]
  ·rename_i bc;simp at a;subst a;simp[Op.equalIn,run_underlying bc,aO]
  ·rename_i bc;simp at a;subst a;simp[Op.equalIn,run_underlying bc,aO]
  ·rename_i bc;simp at a;subst a;simp[Op.equalIn,run_underlying bc,aO]
  ·rename_i E b V dK o' bc
   split at a
   ·rename_i s aD
    rw[h1]at a
    split at a
    ·simp at a
    ·rename_i PA
     have:=az8 Y fG vE a
     simp[Op.equalIn,run_underlying bc,aO,p3 aD,PA,this]
   ·simp at a
  ·rename_i bc;simp at a;subst a;simp[Op.equalIn,run_underlying bc,aO]
  ·rename_i bc;simp at a;subst a;simp[Op.equalIn,run_underlying bc,aO]
  ·rename_i bc;simp at a;subst a;simp[Op.equalIn,run_underlying bc,aO]
  ·rename_i MJ Q4 ty Q5 bc
   rw[h1]at a
   split at a
   ·rename_i E
    subst E
    split at a
    ·rename_i i aN
     simp only[e5]at a
     obtain⟨ax,a⟩:=a
     have:=ai lU MJ Q4 Q5 r Zo fG vE a
     simp[Op.equalIn,run_underlying bc,aO,typeInfo,aN,ax,this]
    ·simp at a
   ·rename_i E
    simp at a;subst a
    simp[Op.equalIn,run_underlying bc,aO,E]
  all_goals first
   |(rename_i bc;simp at a;subst a;simp[Op.equalIn,run_underlying bc,aO];done)
   |skip
  ·rename_i kf ci m0 bc
   simp only[GO]at a
   obtain⟨aw,a⟩:=a
   have cb:C.P.fieldsOf t=kf:=by simp[Program.fieldsOf,bc]
   rw[aO,aO,run_equalIn_struct w lU t _ _ (by rw[cb];exact bc) aw,cb]
   exact aob (λt x e r fG vE a=>ai lU t x e r Zo fG vE a) _ _ _ _ fG vE a
  ·simp at a
end
section
variable{C:aL}{S:c6}{ad:Nat->Prop}{h:R af}{j bm:Nat}{w:World}
def binOp_eql{t:TypeId}{X eS:Value}(J:∀y F e2 b,¬(X= .int y F/\eS= .int e2 b))(Q:∀F b,¬(X= .string F/\eS= .string b))
 (ak:∀y F,X≠ .float y F)(ay:∀y F b,X≠ .complex y F b):binOp .eql t X eS=(do pure (.bool (<-Op.equal t X eS)))/\binOp .neq t X eS=(do pure (.bool (!(<-Op.equal t X eS)))):=by
 constructor
 ·unfold binOp
  split
  all_goals first
   |rfl
   |exact absurd ⟨rfl,rfl⟩ (J _ _ _ _)
   |exact absurd ⟨rfl,rfl⟩ (Q _ _)
   |exact absurd rfl (ak _ _)
   |exact absurd rfl (ay _ _ _)
   |simp_all
 ·unfold binOp
  split
  all_goals first
   |rfl
   |exact absurd ⟨rfl,rfl⟩ (J _ _ _ _)
   |exact absurd ⟨rfl,rfl⟩ (Q _ _)
   |exact absurd rfl (ak _ _)
   |exact absurd rfl (ay _ _ _)
   |simp_all
def acn(S:c6)(v:D):(∀y F,aO S v≠ .float y F)/\∀y F b,aO S v≠ .complex y F b:=by
 cases v<;>simp[aO]
def aqC{m:Nat}{t:TypeId}{iV:Array (String×TypeId)}(bc:C.P.underlying t=some (.interface iV))(bz:iV.isEmpty=true):(Op.eqGuardIn (m+1) t .nilIface .nilIface).run C.P w= .ok false w:=by
 simp[Op.eqGuardIn,run_underlying bc,bz]
def aqD{op:BinOp}{t:TypeId}{x e:Operand}{X eS:Value}(a:(ry x||ry e)=true)(Q:∀c d,¬(X= .agg c/\eS= .agg d)):
 (eqGuard op t x e X eS).run C.P w= .ok () w:=by
 cases op<;>first|rfl|(cases x<;>cases e<;>first|(simp[ry]at a;done)|(cases X<;>cases eS<;>first|rfl|exact absurd ⟨rfl,rfl⟩ (Q _ _)))
def aqE{op:BinOp}{t:TypeId}{x e:Operand}{iV:Array (String×TypeId)}(bc:C.P.underlying t=some (.interface iV))(bz:iV.isEmpty=true):
 (eqGuard op t x e .nilIface .nilIface).run C.P w= .ok () w:=by
 have key:=aqC (C:=C) (w:=w) (m:=9999) bc bz
 have J:Op.maxDepth=9999+1:=rfl
 cases op<;>first|rfl|(cases x<;>cases e<;>first|rfl|(simp[eqGuard,J,key];done))
def aqF{op:BinOp}{t:TypeId}{x e:Operand}(a:(ry x||ry e||(match C.P.underlying t with|some (.interface iV)=>iV.isEmpty|_=>false))=true):
 (eqGuard op t x e .nilIface .nilIface).run C.P w= .ok () w:=by
 by_cases ax:(ry x||ry e)=true
 ·exact aqD ax Zs
 ·have ax:(ry x||ry e)=false:=by simpa using ax
  rw[ax,Bool.false_or]at a
  split at a
  ·rename_i iV bc
   exact aqE bc a
  ·simp at a
def aqG{op:BinOp}{t:TypeId}{x e:Operand}{X eS:Value}(J:¬(X= .nilIface/\eS= .nilIface))(Q:∀c d,¬(X= .agg c/\eS= .agg d)):
 (eqGuard op t x e X eS).run C.P w= .ok () w:=by
 cases op<;>first|rfl|(cases X<;>cases eS<;>first|rfl|exact absurd ⟨rfl,rfl⟩ J|exact absurd ⟨rfl,rfl⟩ (Q _ _))
def NZ{op:BinOp}{t:TypeId}{x e:Operand}{F b:D}(a:GZ C t (ry x||ry e) F b=true):
 (eqGuard op t x e (aO S F) (aO S b)).run C.P w= .ok () w:=by
 unfold GZ at a
 split at a
 ·exact aqF a
 ·simp only[aO]
  exact run_eqGuard_agg w op t x e _ _ (by simpa using a)
 ·rename_i aM aR
  refine aqG ?_ ?_
  ·rintro⟨J,Q⟩
   cases F<;>simp[aO]at J
   cases b<;>simp[aO]at Q
   exact aM rfl rfl
  ·rintro c d ⟨J,Q⟩
   cases F<;>simp[aO]at J
   cases b<;>simp[aO]at Q
   exact aR _ _ rfl rfl
def aoo{op:BinOp}{x e:List Nat}{v:D}(ae:∀F∈x,F<256)(B:∀F∈e,F<256)(a:Bp op x e=some v):
 (Op.stringOp op (gj x) (gj e)).run C.P w= .ok (aO S v) w/\cj ad v:=by
 have bD:=Xb ae B
 have cG:Op.bytesLess (gj x).toList (gj e).toList=CI x e:=by rw[Nx,Nx];exact aiL ae B
 cases op<;>simp only[Bp,w1,e5,Zf]at a<;>
  first
  |(
    obtain⟨J,rfl⟩:=a
    constructor
    ·have aD:(gj x).size=x.length:=by simp[gj,ByteArray.size]
     have tF:(gj e).size=e.length:=by simp[gj,ByteArray.size]
     have f4:=jQ J
     simp only[Op.stringOp,aD,tF]
     rw[Zh (by simp[IntKind.max,IntKind.signed,IntKind.bits];omega)]
     simp only[Sem.run_pure,aO]
     congr 2
     apply ByteArray.ext
     simp[gj]
    ·simp only[cj]
     intro bu cm
     rcases Zz.1 cm with a|a
     ·exact ae bu a
     ·exact B bu a)
  |(subst a;exact⟨by simp only[Op.stringOp,bD,cG,Sem.run_pure,aO],trivial⟩)
  |(simp at a)
def axi(Y:dn C S ad h j bm w){op:BinOp}{t:Nat}{x e:Operand}{av:Operand->Value}{eE:Operand->Option D}{v:D}(cD:jN S ad av eE [x,e])
 (a:P3 C op t x e h eE=some v):(do eqGuard op t x e (av x) (av e);binOp op t (av x) (av e):Sem Value).run C.P w= .ok (aO S v) w/\cj ad v:=by
 unfold P3 at a
 split at a
 ·rename_i F b aA ag
  obtain⟨aql,gc⟩:=cD x Zs F aA
  obtain⟨iN,lV⟩:=cD e Zs b ag
  rw[aql,iN]
  unfold dc at a
  split at a
  ·rename_i y i e2 T
   obtain⟨J,Q,_⟩:=abE (C:=C) (S:=S) (ad:=ad) (w:=w) t a
   refine⟨?_,Q⟩
   rw[Sem.run_bind,NZ (by simp[GZ])]
   exact J
  ·rename_i s eX
   obtain⟨J,Q⟩:=aoo (C:=C) (S:=S) (ad:=ad) (w:=w) gc lV a
   refine⟨?_,Q⟩
   rw[Sem.run_bind,NZ (by simp[GZ])]
   simp only[Result.andThen_ok,aO,binOp]
   exact J
  ·rename_i Wp mQ
   simp only[e5]at a
   obtain⟨gf,a⟩:=a
   have b3:∀r,jC C h 50 t F b=some r->(Op.equal t (aO S F) (aO S b)).run C.P w= .ok r w:=λr mL=>RY Y 50 _ t F b r Zd gc lV mL
   have o4:∀y bu e2 MY,¬(aO S F= .int y bu/\aO S b= .int e2 MY):=by
    intro y bu e2 MY ⟨J,Q⟩
    cases F<;>simp[aO]at J
    cases b<;>simp[aO]at Q
    exact Wp _ _ _ _ rfl rfl
   have lX:∀bu MY,¬(aO S F= .string bu/\aO S b= .string MY):=by
    intro bu MY ⟨J,Q⟩
    cases F<;>simp[aO]at J
    cases b<;>simp[aO]at Q
    exact mQ _ _ rfl rfl
   obtain⟨cN,cB⟩:=binOp_eql (t:=t) o4 lX (acn S F).1 (acn S F).2
   rw[Sem.run_bind,NZ gf]
   split at a
   ·split at a
    ·rename_i r mL
     simp at a;subst a
     exact⟨by simp[cN,b3 r mL,aO],trivial⟩
    ·simp at a
   ·split at a
    ·rename_i r mL
     simp at a;subst a
     exact⟨by simp[cB,b3 r mL,aO],trivial⟩
    ·simp at a
   ·simp at a
 ·simp at a
end
end Go.ba

