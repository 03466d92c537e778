/- A part of the proof of the claim's last text: what it is used for is said there; no condition of its own. -/
import GoSem.Step
set_option maxHeartbeats 8000000
set_option linter.unusedVariables false
set_option linter.unusedSimpArgs false
namespace Go
theorem Zo{p:Prop}(h:p:=by omega):p:=h
theorem Za{p q:Prop}(a:p)(b:q):p/\q:=⟨a,b⟩
theorem Zd{p:Prop}(h:p:=by decide):p:=h
theorem Zs{p:Prop}(h:p:=by simp):p:=h
theorem Zb:type_of%@decide_eq_false_iff_not:=@decide_eq_false_iff_not
theorem Zc:type_of%@List.getElem?_eq_some_iff:=@List.getElem?_eq_some_iff
theorem Ze:type_of%@Option.some.injEq:=@Option.some.injEq
theorem Zf:type_of%@List.getElem?_eq_getElem:=@List.getElem?_eq_getElem
theorem Zg:type_of%@if_neg:=@if_neg
theorem Zh:type_of%@decide_eq_true_eq:=@decide_eq_true_eq
theorem Zi:type_of%@Nat.eq_of_beq_eq_true:=@Nat.eq_of_beq_eq_true
theorem Zj:type_of%@Nat.le_refl:=@Nat.le_refl
theorem Zk:type_of%@Bool.and_eq_true:=@Bool.and_eq_true
theorem Zl:type_of%@List.mem_cons:=@List.mem_cons
theorem Zn:type_of%@List.mem_cons_of_mem:=@List.mem_cons_of_mem
theorem Zp:type_of%@List.mem_of_getElem?:=@List.mem_of_getElem?
theorem Zq:type_of%@List.mem_cons_self:=@List.mem_cons_self
theorem Zr:type_of%@if_pos:=@if_pos
theorem Zt:type_of%@Bool.false_eq_true:=@Bool.false_eq_true
theorem Zu:type_of%@List.length_map:=@List.length_map
theorem Zv:type_of%@List.getElem?_map:=@List.getElem?_map
theorem Zw:type_of%@List.mem_append:=@List.mem_append
theorem Zx:type_of%@if_false:=@if_false
theorem Zy:type_of%@List.map_cons:=@List.map_cons
theorem Zz:type_of%@Nat.le_trans:=@Nat.le_trans
theorem ZA:type_of%@List.drop_eq_getElem_cons:=@List.drop_eq_getElem_cons
theorem ZB:type_of%@if_true:=@if_true
theorem ZC:type_of%@List.length_cons:=@List.length_cons
theorem ZD:type_of%@List.mem_map:=@List.mem_map
theorem ZE:type_of%@Option.bind_some:=@Option.bind_some
theorem ZF:type_of%@List.getElem?_cons_succ:=@List.getElem?_cons_succ
theorem ZG:type_of%@not_false_eq_true:=@not_false_eq_true
theorem ZH:type_of%@Nat.zero_add:=@Nat.zero_add
theorem ZI:type_of%@Nat.lt_of_lt_of_le:=@Nat.lt_of_lt_of_le
theorem ZJ:type_of%@List.not_mem_nil:=@List.not_mem_nil
theorem ZK:type_of%@Array.getElem?_eq_some_iff:=@Array.getElem?_eq_some_iff
theorem ZL:type_of%@List.foldl_cons:=@List.foldl_cons
theorem ZM:type_of%@Array.getElem?_toList:=@Array.getElem?_toList
theorem ZN:type_of%@List.take_of_length_le:=@List.take_of_length_le
theorem ZO:type_of%@Nat.add_assoc:=@Nat.add_assoc
theorem ZP:type_of%@List.getElem?_cons_zero:=@List.getElem?_cons_zero
theorem ZQ:type_of%@List.length_append:=@List.length_append
theorem ZR:type_of%@List.length_nil:=@List.length_nil
theorem ZS:type_of%@Nat.add_zero:=@Nat.add_zero
theorem ZT:type_of%@Option.map_some:=@Option.map_some
theorem ZU:type_of%@List.getElem?_append_right:=@List.getElem?_append_right
theorem ZV:type_of%@Option.bind_eq_some_iff:=@Option.bind_eq_some_iff
theorem ZW:type_of%@List.mem_iff_getElem?:=@List.mem_iff_getElem?
theorem ZX:type_of%@Option.isSome_none:=@Option.isSome_none
theorem ZY:type_of%@Bool.eq_iff_iff:=@Bool.eq_iff_iff
theorem ZZ:type_of%@List.take_succ_cons:=@List.take_succ_cons
theorem Z0:type_of%@Option.map_eq_some_iff:=@Option.map_eq_some_iff
theorem Z1:type_of%@List.drop_eq_nil_of_le:=@List.drop_eq_nil_of_le
theorem Z2:type_of%@List.drop_zero:=@List.drop_zero
theorem Z3:type_of%@List.getElem?_eq_none:=@List.getElem?_eq_none
theorem Z4:type_of%@Option.isSome_some:=@Option.isSome_some
theorem Z5:type_of%@List.getElem?_append_left:=@List.getElem?_append_left
theorem Z6:type_of%@List.drop_succ_cons:=@List.drop_succ_cons
theorem Z7:type_of%@Bool.and_self:=@Bool.and_self
theorem Z8:type_of%@and_true:=@and_true
theorem Z9:type_of%@List.set_cons_zero:=@List.set_cons_zero
theorem Ya:type_of%@List.set_cons_succ:=@List.set_cons_succ
theorem Yb:type_of%@Nat.add_mul:=@Nat.add_mul
theorem Yc:type_of%@Nat.le_succ:=@Nat.le_succ
theorem Yd:type_of%@Nat.mul_one:=@Nat.mul_one
theorem Ye:type_of%@Bool.not_false:=@Bool.not_false
theorem Yf:type_of%@decide_false:=@decide_false
theorem Yg:type_of%@Bool.not_true:=@Bool.not_true
theorem Yh:type_of%@Bool.eq_false_or_eq_true:=@Bool.eq_false_or_eq_true
theorem Yi:type_of%@Option.some.inj:=@Option.some.inj
theorem Yj:type_of%@beq_self_eq_true:=@beq_self_eq_true
theorem Yk:type_of%@Int.eq_ofNat_of_zero_le:=@Int.eq_ofNat_of_zero_le
theorem Yl:type_of%@Option.bind_assoc:=@Option.bind_assoc
theorem Ym:type_of%@List.filter_cons:=@List.filter_cons
theorem Yn:type_of%@decide_true:=@decide_true
theorem Yo:type_of%@List.size_toArray:=@List.size_toArray
theorem Yp:type_of%@List.flatten_cons:=@List.flatten_cons
theorem Yq:type_of%@List.take_zero:=@List.take_zero
theorem Yr:type_of%@List.flatMap_cons:=@List.flatMap_cons
theorem Ys:type_of%@List.eq_nil_of_length_eq_zero:=@List.eq_nil_of_length_eq_zero
theorem Yt:type_of%@or_false:=@or_false
theorem Yu:type_of%@List.mem_filter:=@List.mem_filter
theorem Yv:type_of%@List.map_append:=@List.map_append
theorem Yw:type_of%@Option.getD_some:=@Option.getD_some
theorem Yx:type_of%@List.length_drop:=@List.length_drop
theorem Yy:type_of%@Bool.and_true:=@Bool.and_true
theorem Yz:type_of%@Array.getElem?_append_left:=@Array.getElem?_append_left
theorem YA:type_of%@List.map_congr_left:=@List.map_congr_left
theorem YB:type_of%@List.takeWhile_cons:=@List.takeWhile_cons
theorem YC:type_of%@List.append_nil:=@List.append_nil
theorem YD:type_of%@Nat.mod_eq_of_lt:=@Nat.mod_eq_of_lt
theorem YE:type_of%@Nat.lt_succ_self:=@Nat.lt_succ_self
theorem YF:type_of%@List.getElem?_drop:=@List.getElem?_drop
theorem YG:type_of%@List.map_map:=@List.map_map
theorem YH:type_of%@Nat.sub_zero:=@Nat.sub_zero
theorem YI:type_of%@List.getElem?_take_of_lt:=@List.getElem?_take_of_lt
theorem YJ:type_of%@Prod.mk.injEq:=@Prod.mk.injEq
theorem YK:type_of%@List.set_nil:=@List.set_nil
theorem YL:type_of%@List.mem_of_mem_take:=@List.mem_of_mem_take
theorem YM:type_of%@Array.ext':=@Array.ext'
theorem YN:type_of%@Bool.or_eq_true:=@Bool.or_eq_true
theorem YO:type_of%@List.nodup_cons:=@List.nodup_cons
theorem YP:type_of%@List.mem_map_of_mem:=@List.mem_map_of_mem
theorem YQ:type_of%@List.take_length:=@List.take_length
theorem YR:type_of%@List.getElem?_toArray:=@List.getElem?_toArray
theorem YS:type_of%@List.pairwise_iff_getElem:=@List.pairwise_iff_getElem
theorem YT:type_of%@List.find?_cons:=@List.find?_cons
theorem YU:type_of%@List.nil_append:=@List.nil_append
theorem YV:type_of%@List.ext_getElem?:=@List.ext_getElem?
theorem YW:type_of%@Int.emod_eq_of_lt:=@Int.emod_eq_of_lt
theorem YX:type_of%@Array.size_append:=@Array.size_append
theorem YY:type_of%@Nat.lt_trichotomy:=@Nat.lt_trichotomy
theorem YZ:type_of%@beq_iff_eq:=@beq_iff_eq
theorem Y0:type_of%@not_or:=@not_or
theorem Y1:type_of%@forall_congr':=@forall_congr'
theorem Y2:type_of%@List.filter_toArray:=@List.filter_toArray
theorem Y3:type_of%@List.length_pos_iff:=@List.length_pos_iff
theorem Y4:type_of%@List.length_eq_zero_iff:=@List.length_eq_zero_iff
theorem Y5:type_of%@Nat.le_mul_of_pos_right:=@Nat.le_mul_of_pos_right
theorem Y6:type_of%@Nat.beq_refl:=@Nat.beq_refl
theorem Y7:type_of%@Option.map_none:=@Option.map_none
theorem Y8:type_of%@Array.getElem?_modify:=@Array.getElem?_modify
theorem Y9:type_of%@Nat.le_div_iff_mul_le:=@Nat.le_div_iff_mul_le
theorem za:type_of%@Array.mem_of_getElem?:=@Array.mem_of_getElem?
theorem zb:type_of%@List.take_add_one:=@List.take_add_one
theorem zc:type_of%@List.mapM_cons:=@List.mapM_cons
theorem zd:type_of%@List.mem_of_mem_drop:=@List.mem_of_mem_drop
theorem ze:type_of%@Nat.zero_le:=@Nat.zero_le
theorem zf:type_of%@true_and:=@true_and
theorem zg:type_of%@Nat.le_of_eq:=@Nat.le_of_eq
theorem zh:type_of%@Nat.lt_or_ge:=@Nat.lt_or_ge
theorem zi:type_of%@Nat.le_add_right:=@Nat.le_add_right
theorem zj:type_of%@Nat.zero_mul:=@Nat.zero_mul
theorem zk:type_of%@forall_eq_or_imp:=@forall_eq_or_imp
theorem zl:type_of%@beq_eq_false_iff_ne:=@beq_eq_false_iff_ne
theorem zm:type_of%@List.flatten_append:=@List.flatten_append
theorem zn:type_of%@Bool.true_and:=@Bool.true_and
theorem zo:type_of%@and_self:=@and_self
theorem zp:type_of%@List.cons.injEq:=@List.cons.injEq
theorem zq:type_of%@List.find?_eq_none:=@List.find?_eq_none
theorem zr:type_of%@List.filter_congr:=@List.filter_congr
theorem zs:type_of%@List.drop_drop:=@List.drop_drop
theorem zt:type_of%@Nat.le_of_lt:=@Nat.le_of_lt
theorem zu:type_of%@Nat.not_lt:=@Nat.not_lt
theorem zv:type_of%@Nat.mul_comm:=@Nat.mul_comm
theorem zw:type_of%@List.map_nil:=@List.map_nil
theorem zx:type_of%@Nat.mod_lt:=@Nat.mod_lt
end Go
namespace Go.al
noncomputable section
inductive U(α:Type) where
 |nil
 |node (v:Option α) (l r:U α)
 deriving Inhabited
universe ad
def bC{α:Type ad}(c:Bool)(t E:α):α:=Bool.rec (motive:=λ_=>α) E t c
def U.get{α:Type}(t:U α):Nat->Option α:=
 U.rec (motive:=λ_=>Nat->Option α) (λ_=>none)
  (λv _ _ ig py i=>Nat.rec (motive:=λ_=>Option α) v (λaa _=>bC (Nat.beq (Nat.mod aa 2) 0) (ig (Nat.div aa 2)) (py (Nat.div aa 2))) i) t
def iV{α er:Type}(t:U α)(B:U α->er):er:=
 U.rec (motive:=λ_=>er) (B .nil) (λv l r _ _=>B (.node v l r)) t
def U.qM{α:Type}(f:Nat):U α->Nat->Option α->U α:=
 Nat.rec (motive:=λ_=>U α->Nat->Option α->U α) (λt _ _=>t)
  (λ_ ah t i I=>U.rec (motive:=λ_=>U α)
   (Nat.rec (motive:=λ_=>U α) (.node I .nil .nil) (λaa _=>bC (Nat.beq (Nat.mod aa 2) 0)
    (iV (ah .nil (Nat.div aa 2) I) λcd=> .node none cd .nil) (iV (ah .nil (Nat.div aa 2) I) λhq=> .node none .nil hq)) i)
   (λv l r _ _=>Nat.rec (motive:=λ_=>U α) (.node I l r) (λaa _=>bC (Nat.beq (Nat.mod aa 2) 0)
    (iV (ah l (Nat.div aa 2) I) λcd=> .node v cd r) (iV (ah r (Nat.div aa 2) I) λhq=> .node v l hq)) i) t) f
def pu{er:Type}(n:Nat)(B:Nat->er):er:=Nat.rec (motive:=λ_=>er) (B 0) (λm _=>B (Nat.succ m)) n
def Og{er:Type}(n:Int)(B:Int->er):er:=
 Int.rec (motive:=λ_=>er) (λm=>pu m λm=>B (.ofNat m)) (λm=>pu m λm=>B (.negSucc m)) n
def d8{α:Type}(l:List (Nat×α)):Nat->Option α:=
 List.rec (motive:=λ_=>Nat->Option α) (λ_=>none) (λp _ ah aa=>Prod.rec (motive:=λ_=>Option α) (λI b=>bC (Nat.beq I aa) (some b) (ah aa)) p) l
def U.set{α:Type}(t:U α)(i:Nat)(I:Option α):U α:=U.qM (i+1) t i I
def U.ofList{α:Type}:List α->Nat->U α->U α
 |[],_,t=>t
 |I::l,i,t=>iV (t.set i (some I)) λgV=>ofList l (i+1) gV
def U.jL{α:Type}(t:U α):Nat->Nat->Option (List α)
 |_,0=>some []
 |W,n+1=>match t.get W with
  |none=>none
  |some I=>match jL t (W+1) n with
   |none=>none
   |some l=>some (I::l)
def o6{α:Type}(l:List α):Nat->Option α:=
 List.rec (motive:=λ_=>Nat->Option α) (λ_=>none) (λI _ ah i=>Nat.rec (motive:=λ_=>Option α) (some I) (λaa _=>ah aa) i) l
inductive H where
 |bool (b:Bool)
 |int (B:IntKind) (n:Int)
 |str (s:List Nat)
 |ptr (b W:Nat)
 |cI
 |slice (b W len cap:Nat)
 |e5 (b W len bd:Nat)
 |aU
 |map (m:Nat)
 |kH
 |func (fn:Fn) (first fl:List H)
 |nilFunc
 |iface (t:Nat) (v:H)
 |nilIface
 |agg (cs:List H)
 |tuple (br:List H)
 deriving Inhabited
def H.cells:H->List H
 | .agg cs=>cs
 |v=>[v]
def undef:H:= .tuple []
def Av{α er:Type}(f:α->Option er):List α->Option (List er)
 |[]=>some []
 |I::l=>match f I with
  |none=>none
  |some b=>match Av f l with
   |none=>none
   |some r=>some (b::r)
def AC:Nat->Value->Option H
 |0,_=>none
 |n+1,v=>match v with
  | .bool b=>some (.bool b)
  | .int B n=>some (.int B n)
  | .string s=>some (.str (s.data.toList.map (·.toNat)))
  | .pointer none=>some .cI
  | .slice none 0 0=>some .aU
  | .map none=>some .kH
  | .func (.func f) ⟨[]⟩ ⟨[]⟩=>some (.func (.func f) [] [])
  | .nilFunc=>some .nilFunc
  | .iface t v=>match AC n v with|some I=>some (.iface t I)|none=>none
  | .nilIface=>some .nilIface
  | .agg cs=>match Av (AC n) cs.toList with|some l=>some (.agg l)|none=>none
  | .tuple cs=>match Av (AC n) cs.toList with|some l=>some (.tuple l)|none=>none
  |_=>none
def CC(v:Value):Option H:=AC 20 v
inductive MP where
 |fn (fn:Fn) (fl:List H)
 |collected (r:Nat)
structure hj where
 target:MP
 args:List H
inductive oG where
 |own|marked|grow (fb:List Nat)|jJ
 deriving Inhabited
inductive an where
 |cells (c:U H) (size:Nat) (st:oG)
 |map (a2:List (H×H×Nat)) (cw:Nat)
 |look (a2:List (H×H))
 |nJ (s:List Nat) (pos:Nat)
 |hz (m:Option Nat) (d4:Nat) (seen:List Nat) (kM:Nat)
 |uD (m d4 n:Nat) (cN:List Nat) (st:Nat) (lb:Option Nat)
 |loop (state:LoopState) (pending:Option Code) (fn:Nat) (n ap:Nat) (J:U H) (params:List Nat) (assign body:Code) (defers:Nat)
 |deferred (oL:Option (List hj))
structure aX where
 P:Program
 G:U an
 bj:Nat
 hf:Nat->List H->Option H
 oh:Nat
def ab(C:aX)(h:U an)(b:Nat):Option an:=
 bC (Nat.blt b C.bj) (C.G.get b) (h.get (Nat.sub b C.bj))
def bm(C:aX)(h:U an)(b:Nat)(W:Option an):U an:=h.set (Nat.sub b C.bj) W
def ke(C:aX)(b:Nat):Bool:=Nat.ble C.bj b
structure qX where
 v:H
 recovered:Bool
inductive ks where
 |run|returning|panicking (chain:List qX)
inductive jU where
 |v (aa:Nat)
 |t (n:Nat)
 |c (I:H)
inductive jl where
 |Cr (x:jU)
 |pick (c I b:jU)
 |fy (I:jU)
 |As (n:Nat) (I:jU)
 |off (d:Nat) (x:jU)
 |Aj (n bd:Nat) (x i:jU)
 |Ak (bd:Nat) (x i:jU)
 |Cy (x:jU)
 |HN (op:BinOp) (x j:jU)
 |ext (i:Nat) (x:jU)
 |st (n:Nat) (I v:jU)
 |call (f:Nat) (args:List jU)
 |hQ (bT:List (Nat×Nat)) (W:Op)
 |make (bT:List (Nat×Nat)) (W:Op)
 |e1 (bT:List (Nat×Nat)) (W:Op)
structure e4 where
 i:Nat
 g:Option (Nat×Bool)
 op:jl
structure vl where
 sY:List e4
 Rg:List e4
 e1:Option e4
inductive dy where
 |code (c:Code)
 |inBlock (id:Nat)
 |inLoop (body:Code)
 |inScope (body:Code)
 |Fl (aq:Array Oper) (ak:List (Nat×H)) (rest:List e4) (fin:List (Nat×Nat))
 |drawn (aq:Array Oper) (base:Nat) (ak:List (Nat×H)) (kL:List vl) (fin:List (Nat×Nat))
 |r5 (aq:Array Oper) (ak:List (Nat×H)) (a:Nat) (rest:List e4) (fin:List (Nat×Nat))
 |yb (aq:Array Oper) (base:Nat) (ak:List (Nat×H)) (a:Nat) (kL:List vl) (fin:List (Nat×Nat))
 |inRangeFunc (l:Nat)
 |endRangeFunc (l:Nat)
 |beginRound
structure gi where
 fn:Nat
 n:Nat
 ap:Nat
 J:U H
 todo:List dy
 defers:List hj
 mode:ks
 deferred:Bool
 roundOf:Option Nat
section aq
variable(C:aX)
def iq(t:Nat):Option Nat:=match C.P.info? t with|some i=>some i.size|none=>none
def qa(t:Nat):Option H:=match C.P.info? t with|some i=>(match i.zero with|some v=>CC v|none=>none)|none=>none
def Cf(t:Nat):Option Bool:=match C.P.underlying t with
 |some (.struct _)=>some true|some (.array _ _)=>some true|some _=>some false|none=>none
def lu:List H->Nat->List H->List H
 |cs,_,[]=>cs
 |cs,W,v::l=>lu (cs.set W v) (W+1) l
def yJ(E9:Nat->Option (Nat×Nat)):List H->List (Nat×H)->Option (List H)
 |cells,[]=>some cells
 |cells,(i,v)::rest=>match E9 i with
  |none=>none
  |some (off,size)=>
   bC (Nat.beq v.cells.length size&&Nat.ble (off+size) cells.length) (yJ E9 (lu cells off v.cells) rest)<|none
def jG:Nat->List H->List H
 |0,_=>[]
 |n+1,bl=>bl++jG n bl
def w0(aw:Operand->Option H):List (Nat×Operand)->Option (List (Nat×H))
 |[]=>some []
 |(i,x)::l=>match aw x,w0 aw l with|some v,some r=>some ((i,v)::r)|_,_=>none
def oQ(aw:Operand->Option H):List Operand->Option (List H)
 |[]=>some []
 |x::l=>match aw x,oQ aw l with|some v,some r=>some (v::r)|_,_=>none
def RL(ju:List Field)(i:Nat):Option (Nat×Nat):=
 match o6 ju i with
 |some f=>(match iq C f.type with|some s=>some (f.offset,s)|none=>none)
 |none=>none
def LZ:List Field->Bool
 |[]=>true
 |f::l=>(match iq C f.type with|some _=>true|none=>false)&&LZ l
def Je(t:Nat)(jF:List (Nat×H)):Option H:=
 match qa C t with
 |none=>none
 |some bl=>match C.P.underlying t with
  |some (.struct ju)=>bC (LZ C ju.toList) (match yJ (RL C ju.toList) bl.cells jF with|some cs=>some (.agg cs)|none=>none) none
  |some (.array _ dE)=>(match iq C dE with
   |some s=>(match yJ (λi=>some (i*s,s)) bl.cells jF with|some cs=>some (.agg cs)|none=>none)
   |none=>none)
  |_=>none
def Be(t:Nat)(cs:List H)(off:Nat):Option H:=
 match Cf C t,iq C t with
 |some true,some s=>some (.agg ((cs.drop off).take s))
 |some false,_=>o6 cs off
 |_,_=>none
def mb:List Nat->List Nat->Bool
 |[],[]=>true
 |I::x,b::j=>Nat.beq I b&&mb x j
 |_,_=>false
def Ay:List Nat->List Nat->Bool
 |_,[]=>false
 |[],_::_=>true
 |I::x,b::j=>Nat.blt I b||(Nat.beq I b&&Ay x j)
def L4(h:U an)(b W:Nat):Bool:=match ab C h b with
 |some (.cells _ n .own)=>ke C b&&Nat.blt W n
 |_=>false
def EO(h:U an)(b W:Nat):Bool:=match ab C h b with
 |some (.cells _ _ .jJ)=>false
 |some (.cells _ n _)=>Nat.blt W n
 |_=>false
def ptrEq(h:U an)(b W ea o':Nat):Option Bool:=
 bC (Nat.beq b ea) (some (Nat.beq W o')) (bC (L4 C h b W&&EO C h ea o'||L4 C h ea o'&&EO C h b W) (some false) none)
def FW(eq:Nat->H->H->Option Bool):List Field->List H->List H->Option Bool
 |[],_,_=>some true
 |f::mo,ch,pi=>
  bC (f.name== "_") none<|
  match Be C f.type ch f.offset,Be C f.type pi f.offset with
  |some I,some b=>(match eq f.type I b with
   |some true=>FW eq mo ch pi
   |some false=>some false
   |none=>none)
  |_,_=>none
def lE(B eA:IntKind):Bool:=match B,eA with
 | .i8, .i8=>true| .i16, .i16=>true| .i32, .i32=>true| .i64, .i64=>true
 | .u8, .u8=>true| .u16, .u16=>true| .u32, .u32=>true| .u64, .u64=>true
 |_,_=>false
def Jw(I b:Bool):Bool:=match I,b with|true,true=>true|false,false=>true|_,_=>false
def xG(x j:Int):Bool:=match x,j with
 | .ofNat I, .ofNat b=>Nat.beq I b
 | .negSucc I, .negSucc b=>Nat.beq I b
 |_,_=>false
def xH(x j:Int):Bool:=match x,j with
 | .ofNat I, .ofNat b=>Nat.blt I b
 | .negSucc I, .negSucc b=>Nat.blt b I
 | .negSucc _, .ofNat _=>true
 | .ofNat _, .negSucc _=>false
def mN(h:U an):Nat->Nat->H->H->Option Bool
 |0,_,_,_=>none
 |d+1,t,x,j=>
  match C.P.underlying t,x,j with
  |some .bool, .bool I, .bool b=>some (Jw I b)
  |some (.int _), .int B I, .int eA b=>bC (lE B eA) (some (xG I b)) none
  |some .string, .str I, .str b=>some (mb I b)
  |some (.pointer _), .cI, .cI=>some true
  |some (.pointer _), .cI, .ptr _ _=>some false
  |some (.pointer _), .ptr _ _, .cI=>some false
  |some (.pointer E), .ptr b W, .ptr ea o'=>
   (
    match iq C E with
    |some s=>bC (Nat.beq s 0) none (ptrEq C h b W ea o')
    |none=>none)
  |some (.interface _), .nilIface, .nilIface=>some true
  |some (.interface _), .nilIface, .iface _ _=>some false
  |some (.interface _), .iface _ _, .nilIface=>some false
  |some (.interface _), .iface IN MC, .iface ty MD=>bC (Nat.beq IN ty) (match C.P.info? IN with
   |some i=>bC i.comparable (mN h d IN MC MD) none
   |none=>none) (some false)
  |some (.slice _), .aU, .aU=>some true
  |some (.slice _), .aU, .slice .. =>some false
  |some (.slice _), .aU, .e5 .. =>some false
  |some (.slice _), .slice .., .aU=>some false
  |some (.slice _), .e5 .., .aU=>some false
  |some (.map _ _), .kH, .kH=>some true
  |some (.map _ _), .kH, .map _=>some false
  |some (.map _ _), .map _, .kH=>some false
  |some (.func _ _ _), .nilFunc, .nilFunc=>some true
  |some (.func _ _ _), .nilFunc, .func .. =>some false
  |some (.func _ _ _), .func .., .nilFunc=>some false
  |some (.struct ju), .agg ch, .agg pi=>bC (C.P.stoodInHeld t) none (FW C (mN h d) ju.toList ch pi)
  |_,_,_=>none
def ox(B:IntKind)(n:Int):Int:=
 match B with
 | .i64=>(λm:Int=>bC (decide (m<9223372036854775808)) m (m-18446744073709551616)) (n%18446744073709551616)
 | .u64=>n%18446744073709551616
 | .u8=>n%256
 |B=>B.wrap n
def o0(B:IntKind)(n:Int):Option H:=Og n λn=>some (.int B n)
def kE(B:IntKind)(n:Int):Option H:=Og (ox B n) λn=>some (.int B n)
def oK(b:Bool):Option H:=bC b (some (.bool true)) (some (.bool false))
def k6(op:BinOp):IntKind->Int->Int->Option H:=
 match op with
 | .add=>λB x j=>kE B (x+j)
 | .sub=>λB x j=>kE B (x-j)
 | .mul=>λB x j=>kE B (x*j)
 | .quo=>λB x j=>bC (xG j 0) none (kE B (x.tdiv j))
 | .rem=>λB x j=>bC (xG j 0) none (o0 B (x.tmod j))
 | .and=>λB x j=>kE B ((BitVec.ofInt B.bits x&&& BitVec.ofInt B.bits j).toNat)
 | .or=>λB x j=>kE B ((BitVec.ofInt B.bits x|||BitVec.ofInt B.bits j).toNat)
 | .xor=>λB x j=>kE B ((BitVec.ofInt B.bits x^^^BitVec.ofInt B.bits j).toNat)
 | .andNot=>λB x j=>kE B ((BitVec.ofInt B.bits x&&& ~~~ BitVec.ofInt B.bits j).toNat)
 | .eql=>λ_ x j=>oK (xG x j)
 | .neq=>λ_ x j=>oK (!xG x j)
 | .lss=>λ_ x j=>oK (xH x j)
 | .leq=>λ_ x j=>oK (!xH j x)
 | .gtr=>λ_ x j=>oK (xH j x)
 | .geq=>λ_ x j=>oK (!xH x j)
 |_=>λ_ _ _=>none
def FZ(op:BinOp)(B:IntKind)(x j:Int):Option H:=
 bC (xH j 0) none
 (match op with
 | .shl=>kE B (x*2^(min j.toNat B.bits))
 | .shr=>o0 B (x.fdiv (2^(min j.toNat B.bits)))
 |_=>none)
def ln(op:BinOp):Bool:=match op with| .shl| .shr=>true|_=>false
def ys(op:BinOp)(x j:List Nat):Option H:=
 match op with
 | .add=>bC (Nat.ble (x.length+j.length) 1000000000) (some (.str (x++j)))<|none
 | .eql=>oK (mb x j)
 | .neq=>oK (!mb x j)
 | .lss=>oK (Ay x j)
 | .leq=>oK (Ay x j||mb x j)
 | .gtr=>oK (!(Ay x j||mb x j))
 | .geq=>oK (!Ay x j)
 |_=>none
def aL(op:BinOp)(x j:H):Option H:=
 match x,j with
 | .int B I, .int eA b=>bC (ln op) (FZ op B I b) (bC (lE B eA) (k6 op B I b) none)
 |_,_=>none
def DE(t:Nat)(sp:Bool)(x j:H):Bool:=match x,j with
 | .nilIface, .nilIface=>sp||(match C.P.underlying t with|some (.interface h7)=>h7.isEmpty|_=>false)
 | .agg _, .agg _=> !C.P.eqGuardType C.P.depth t
 |_,_=>true
def dn(h:U an)(op:BinOp)(t:Nat)(sp:Bool)(x j:H):Option H:=
 match x,j with
 | .int B I, .int eA b=>aL op (.int B I) (.int eA b)
 | .str I, .str b=>ys op I b
 |x,j=>bC (DE C t sp x j) (match op with
  | .eql=>(match mN C h 50 t x j with|some b=>oK b|none=>none)
  | .neq=>(match mN C h 50 t x j with|some b=>oK (!b)|none=>none)
  |_=>none) none
def fT(op:UnOp)(x:H):Option H:=
 match op,x with
 | .neg, .int B n=>k6 .sub B 0 n
 | .xor, .int B n=>k6 .xor B (if B.signed then -1 else B.max) n
 | .not, .bool b=>oK (!b)
 |_,_=>none
def Nf(asp dst:Nat)(x:H):Option H:=
 match C.P.underlying asp,C.P.underlying dst,x with
 |some _,some (.int B), .int _ n=>kE B n
 |some _,some .string, .str s=>some (.str s)
 |_,_,_=>none
def m4(v:H):Option Nat:=match v with| .int _ n=>(match n with| .ofNat n=>some n|_=>none)|_=>none
def pZ(W:Option H)(m d:Nat):Option Nat:=match W with
 |some v=>(match m4 v with|some n=>bC (Nat.ble n m) (some n)<|none|none=>none)
 |none=>some d
def nd(len cap:Nat)(bP aN gM:Option H):Option (Nat×Nat×Nat):=
 match pZ gM cap cap with
 |none=>none
 |some m=>match (match aN,gM with
   |none,some _=>none
   |aN,_=>pZ aN m len)with
  |none=>none
  |some a=>match pZ bP a 0 with
   |none=>none
   |some l=>some (l,a,m)
def AH(aw:Operand->Option H):Option Operand->Option (Option H)
 |none=>some none
 |some x=>match aw x with|some v=>some (some v)|none=>none
def x6(h:U an)(b:Nat):Option Nat:=match ab C h b with|some (.cells _ n (.grow _))=>some n|some (.cells _ n .jJ)=>some n|_=>none
def Jo(h:U an)(t:Nat)(x:H)(bP aN gM:Option H):Option H:=
 match C.P.underlying t,x with
 |some .string, .str s=>(match gM with
  |some _=>none
  |none=>(match nd s.length s.length bP aN none with
   |some (l,a,_)=>some (.str ((s.drop l).take (a-l)))
   |none=>none))
 |some (.slice dE), .slice b W len cap=>(match nd len cap bP aN gM,iq C dE with
  |some (l,a,m),some bd=>some (.slice b (bC (Nat.beq m l) (W)<|W+l*bd) (a-l) (m-l))
  |_,_=>none)
 |some (.slice dE), .aU=>(match nd 0 0 bP aN gM,iq C dE with
  |some _,some _=>some .aU
  |_,_=>none)
 |some (.slice dE), .e5 b W len bd=>(match iq C dE,x6 C h b with
  |some wu,some n=>bC (Nat.beq bd wu&&Nat.blt 0 bd) ((match nd len ((n-W)/bd) bP aN gM with
    |some (l,a,m)=>(match gM with
     |some _=>some (.slice b (bC (Nat.beq m l) (W)<|W+l*bd) (a-l) (m-l))
     |none=>bC (Nat.blt l ((n-W)/bd)||Nat.beq l 0) (some (.e5 b (W+l*bd) (a-l) bd))<|none)
    |none=>none))<|none
  |_,_=>none)
 |some (.array n dE), .ptr b W=>(match nd n n bP aN gM,iq C dE with
  |some (l,a,m),some bd=>some (.slice b (bC (Nat.beq m l) (W)<|W+l*bd) (a-l) (m-l))
  |_,_=>none)
 |_,_=>none
def Jk(t:Nat)(x i:H):Option H:=
 match m4 i with
 |none=>none
 |some i=>match C.P.underlying t,x with
  |some (.array n dE), .agg cs=>(match iq C dE with|some bd=>bC (Nat.blt i n) (Be C dE cs (i*bd))<|none|none=>none)
  |some .string, .str s=>(match o6 s i with|some c=>some (.int .u8 (Int.ofNat c))|none=>none)
  |_,_=>none
def cellsOf(h:U an)(b:Nat):Option (U H):=match ab C h b with
 |some (.cells c _ _)=>some c
 |_=>none
def ao(h:U an)(I:H):Option H:=
 match I with
 | .ptr b W=>(match cellsOf C h b with
   |some c=>c.get W
   |none=>none)
 |_=>none
def cL(h:U an)(n:Nat)(I:H):Option H:=
 match I with
 | .ptr b W=>(match cellsOf C h b with
   |some c=>(match c.jL W n with|some l=>some (.agg l)|none=>none)
   |none=>none)
 |_=>none
def oH(h:U an)(t:Nat)(I:H):Option H:=
 match Cf C t,iq C t with
 |some true,some s=>cL C h s I
 |some false,_=>ao C h I
 |_,_=>none
def lP:Nat->Nat->H->Bool
 |0,_,_=>false
 |n+1,t,v=>match C.P.underlying t,v with
  |some (.interface _), .iface d x=>(match C.P.info? d with|some i=>i.comparable&&lP n d x|none=>false)
  |some (.interface _), .nilIface=>true
  |some (.interface _),_=>false
  |some (.struct ju), .agg cs=>ju.toList.all λf=>f.name== "_"||(match Be C f.type cs f.offset with|some p=>lP n f.type p|none=>false)
  |some (.struct _),_=>false
  |some (.array _ _),_=>false
  |some _,_=>true
  |none,_=>false
def nz:Nat->H->H->Bool
 |0,_,_=>false
 |n+1,x,j=>match x,j with
  | .bool I, .bool b=>Jw I b
  | .int B I, .int eA b=>lE B eA&&xG I b
  | .str I, .str b=>mb I b
  | .ptr b W, .ptr ea o'=>Nat.beq b ea&&Nat.beq W o'
  | .cI, .cI=>true
  | .nilIface, .nilIface=>true
  | .iface t v, .iface gV gO=>Nat.beq t gV&&nz n v gO
  | .agg I, .agg b=>Aq n I b
  |_,_=>false
 where
 Aq (n:Nat):List H->List H->Bool
 |[],[]=>true
 |x::I,j::b=>nz n x j&&Aq n I b
 |_,_=>false
def findKey(h:U an)(t:Nat)(B:H):List (H×H×Nat)->Nat->Option (Option (Nat×H))
 |[],_=>some none
 |(eA,v,_)::a2,i=>match mN C h 20 t B eA with
  |some true=>some (some (i,v))
  |some false=>findKey h t B a2 (i+1)
  |none=>none
def oe(h:U an)(t:Nat)(B:H):List (H×H)->Option (Option H)
 |[]=>some none
 |(eA,v)::a2=>match oe h t B a2,mN C h 20 t B eA with
  |some r,some false=>some r
  |some none,some true=>some (some v)
  |_,_=>none
def EP(r:Option (Option H)):Option (Option (Nat×H)):=match r with
 |some (some v)=>some (some (0,v))
 |some none=>some none
 |none=>none
def Jn(h:U an)(t:Nat)(m B:H)(ok:Bool):Option H:=
 match C.P.underlying t with
 |some (.map hd su)=>
  (match (match m with
   | .kH=>bC (lP C 20 hd B) (some none) none
   | .map r=>(match ab C h r with|some (.map a2 _)=>bC (lP C 20 hd B) (findKey C h hd B a2 0) none|some (.look a2)=>bC (lP C 20 hd B) (EP (oe C h hd B a2)) none|_=>none)
   |_=>none)with
  |none=>none
  |some none=>(match qa C su with|some bl=>some (bC (ok) (.tuple [bl, .bool false])<|bl)|none=>none)
  |some (some (_,v))=>some (bC (ok) (.tuple [v, .bool true])<|v))
 |_=>none
def Jm(h:U an)(t:Nat)(x:H):Option H:=
 match C.P.underlying t,x with
 |some .string, .str s=>o0 .i64 (Int.ofNat s.length)
 |some (.array n _),_=>some (.int .i64 (Int.ofNat n))
 |some (.pointer bU),_=>(match C.P.underlying bU with|some (.array n _)=>some (.int .i64 (Int.ofNat n))|_=>none)
 |some (.slice _), .slice _ _ n _=>o0 .i64 (Int.ofNat n)
 |some (.slice _), .e5 _ _ n _=>o0 .i64 (Int.ofNat n)
 |some (.slice _), .aU=>some (.int .i64 0)
 |some (.map _ _), .kH=>some (.int .i64 0)
 |some (.map _ _), .map r=>(match ab C h r with|some (.map a2 _)=>o0 .i64 (Int.ofNat a2.length)|_=>none)
 |_,_=>none
def Jf(t:Nat)(x:H):Option H:=
 match C.P.underlying t,x with
 |some (.slice _), .slice _ _ _ n=>o0 .i64 (Int.ofNat n)
 |some (.slice _), .aU=>some (.int .i64 0)
 |_,_=>none
def nR(gM:Bool):H->List H->Option H
 |v,[]=>some v
 | .int B x, .int _ j::l=>nR gM (.int B (bC (gM) ((bC (xH x j) (j)<|x))<|(bC (xH j x) (j)<|x))) l
 |_,_=>none
def wS:List H->Option (List Nat)
 |[]=>some []
 | .int .u8 (.ofNat n)::l=>(match wS l with|some r=>some (n%256::r)|none=>none)
 |_=>none
def k9(h:U an)(b W n:Nat):Option (List H):=
 match cellsOf C h b with
 |some c=>c.jL W n
 |none=>bC (Nat.beq n 0) (some []) none
def Dk(h:U an)(x:H):Option H:=
 match x with
 | .aU=>some (.str [])
 | .slice b W len _=>(match k9 C h b W len with|some l=>(match wS l with|some s=>some (.str s)|none=>none)|none=>none)
 | .e5 b W len _=>(match k9 C h b W len with|some l=>(match wS l with|some s=>some (.str s)|none=>none)|none=>none)
 |_=>none
def Qr(t:Nat)(jF:Array (Nat×Operand))(_:U an)(aw:Operand->Option H):Option H:=
 match w0 aw jF.toList with|some c8=>Je C t c8|none=>none
def pU(W:Operand):Bool:=match W with| .const _=>true|_=>false
def Lx(op:BinOp)(t:Nat)(x j:Operand)(h:U an)(aw:Operand->Option H):Option H:=
 match aw x,aw j with|some I,some b=>dn C h op t (pU x||pU j) I b|_,_=>none
def Qy(op:UnOp)(x:Operand)(_:U an)(aw:Operand->Option H):Option H:=
 match aw x with|some I=>fT op I|none=>none
def H0(s d:Nat)(x:Operand)(h:U an)(aw:Operand->Option H):Option H:=
 match aw x with
 |some I=>(match Nf C s d I with
  |some v=>some v
  |none=>(match C.P.underlying s,C.P.underlying d with
   |some (.slice E),some .string=>(match C.P.underlying E with|some (.int .u8)=>Dk C h I|_=>none)
   |_,_=>none))
 |none=>none
def H2(t:Nat)(x:Operand)(_:U an)(aw:Operand->Option H):Option H:=
 match C.P.underlying t,aw x with
 |some (.interface _),_=>none
 |some _,some v=>some (.iface t v)
 |_,_=>none
def Qu(fn:Fn)(first fl:Array Operand)(_:U an)(aw:Operand->Option H):Option H:=
 match oQ aw first.toList,oQ aw fl.toList with
 |some I,some b=>(match fn with| .func f=>some (.func (.func f) I b)|_=>none)
 |_,_=>none
def Qx(t:Nat)(x:Operand)(bP aN gM:Option Operand)(h:U an)(aw:Operand->Option H):Option H:=
 match aw x,AH aw bP,AH aw aN,AH aw gM with
 |some v,some l,some a,some m=>Jo C h t v l a m
 |_,_,_,_=>none
def H1(t:Nat)(x:Operand)(f:Nat)(_:U an)(aw:Operand->Option H):Option H:=
 match C.P.underlying t,aw x with
 |some (.struct ju),some (.agg cs)=>(match o6 ju.toList f with
  |some rf=>Be C rf.type cs rf.offset
  |none=>none)
 |_,_=>none
def Qv(t:Nat)(x i:Operand)(_:U an)(aw:Operand->Option H):Option H:=
 match aw x,aw i with|some I,some b=>Jk C t I b|_,_=>none
def Qw(t:Nat)(m B:Operand)(ok:Bool)(h:U an)(aw:Operand->Option H):Option H:=
 match aw m,aw B with|some I,some b=>Jn C h t I b ok|_,_=>none
def HZ(x:Operand)(tp:Nat)(ok:Bool)(_:U an)(aw:Operand->Option H):Option H:=
 match C.P.underlying tp,aw x with
 |some (.interface _),_=>none
 |some _,some .nilIface=>bC (ok) ((match qa C tp with|some bl=>some (.tuple [bl, .bool false])|none=>none))<|none
 |some _,some (.iface t v)=>bC (Nat.beq t tp) (some (bC (ok) (.tuple [v, .bool true])<|v))<|bC (ok) ((match qa C tp with|some bl=>some (.tuple [bl, .bool false])|none=>none))<|none
 |_,_=>none
def Qs(b:Builtin)(args:Array Operand)(cM:Array TypeId)(h:U an)(aw:Operand->Option H):Option H:=
 match b,oQ aw args.toList with
 | .len,some [x]=>(match cM.toList with|t::_=>Jm C h t x|_=>none)
 | .cap,some [x]=>(match cM.toList with|t::_=>Jf C t x|_=>none)
 | .max,some (x::l)=>nR true x l
 | .min,some (x::l)=>nR false x l
 |_,_=>none
def Qt(c:Call)(h:U an)(aw:Operand->Option H):Option H:=
 match c with
 |⟨.builtin b,args,cM⟩=>Qs C b args cM h aw
 |_=>none
def EH:List Nat->Option Nat
 |[]=>none
 |I::l=>match l with|[]=>some I|_=>EH l
def tB(b:Nat):List (H×H×Nat)->Option (H×H×Nat)
 |[]=>none
 |E::a2=>bC (Nat.beq E.2.2 b) (some E) (tB b a2)
def EG(dY:Operand)(h:U an)(aw:Operand->Option H):Option H:=
 match aw dY with
 |some (.ptr r 0)=>(match ab C h r with
  |some (.hz (some m) _ seen kM)=>(match EH seen,ab C h m with
   |some qP,some (.map a2 cw)=>bC (Nat.beq cw kM) (match tB qP a2 with
    |some (B,v,_)=>some (.tuple [B,v])
    |none=>none) none
   |_,_=>none)
  |some (.uD m _ _ _ kM lb)=>(match lb,ab C h m with
   |some qP,some (.map a2 cw)=>bC (Nat.beq cw kM) (match tB qP a2 with
    |some (B,v,_)=>some (.tuple [B,v])
    |none=>none) none
   |_,_=>none)
  |_=>none)
 |_=>none
def nf(W:Op):aX->U an->(Operand->Option H)->Option H:=
 match W with
 | .build t jF=>λC=>Qr C t jF
 | .binOp op t x j _=>λC=>Lx C op t x j
 | .unOp op _ x=>λ_=>Qy op x
 | .convert s d x=>λC=>H0 C s d x
 | .makeInterface t x=>λC=>H2 C t x
 | .makeFunc fn first fl=>λ_=>Qu fn first fl
 | .slice t x bP aN gM=>λC=>Qx C t x bP aN gM
 | .field t x f=>λC=>H1 C t x f
 | .index t x i=>λC=>Qv C t x i
 | .lookup t m B ok=>λC=>Qw C t m B ok
 | .typeAssert x _ tp ok=>λC=>HZ C x tp ok
 | .entry dY=>λC=>EG C dY
 | .call c=>λC=>Qt C c
 |_=>λ_ _ _=>none
def AR(c:jl):Bool:=match c with
 | .fy _| .As _ _=>true
 | .hQ _ W=>(match W with
   | .lookup .. | .convert .. | .slice .. | .call _| .binOp .. | .entry _=>true
   |_=>false)
 |_=>false
def Co(t:Nat)(_:Operand->Option H)(b:Nat):Option (H×an):=
 match qa C t with|some bl=>some (.ptr b 0, .cells (U.ofList bl.cells 0 .nil) bl.cells.length .own)|none=>none
def H9(x:Operand)(aw:Operand->Option H)(b:Nat):Option (H×an):=
 match aw x with|some v=>some (.ptr b 0, .cells (U.ofList v.cells 0 .nil) v.cells.length .own)|none=>none
def Ia(t len:Nat)(jF:Array (Nat×Operand))(aw:Operand->Option H)(b:Nat):Option (H×an):=
 match C.P.underlying t,w0 aw jF.toList with
 |some (.slice dE),some c8=>(match iq C dE,qa C dE with
  |some s,some bl=>bC (Nat.ble (len*s) 16777216&&Nat.beq bl.cells.length s) ((match yJ (λi=>some (i*s,s)) (jG len bl.cells) c8 with
    |some cs=>some (.slice b 0 len len, .cells (U.ofList cs 0 .nil) cs.length .own)
    |none=>none))<|none
  |_,_=>none)
 |_,_=>none
def pm(W:Op):aX->(Operand->Option H)->Nat->Option (H×an):=
 match W with
 | .alloc t=>λC=>Co C t
 | .box _ x=>λ_=>H9 x
 | .buildSlice t len jF=>λC=>Ia C t len jF
 | .makeMap _ none=>λ_ _ b=>some (.map b, .map [] 0)
 |_=>λ_ _ _=>none
def o2:List Nat->U an->U an
 |[],a=>a
 |b::l,a=>o2 l (bm C a b none)
def d0:U H->Nat->List H->U H
 |c,_,[]=>c
 |c,W,v::l=>iV (c.set W (some v)) λc=>d0 c (W+1) l
def o8(v:H):Bool:=match v with| .agg _=>false| .tuple _=>false|_=>true
def kl:List H->Bool
 |[]=>true
 |v::l=>o8 v&&kl l
def q7(h:U an)(b W:Nat)(br:List H):Option (U an):=
 match ab C h b with
 |some (.cells c n st)=>bC (Nat.ble (W+br.length) n&&ke C b&&kl br) ((match st with
   | .own=>iV (d0 c W br) λc=>iV (bm C h b (some (.cells c n .own))) λh=>some h
   | .marked=>iV (d0 c W br) λc=>iV (bm C h b (some (.cells c n .marked))) λh=>some h
   | .grow fb=>iV (d0 c W br) λc=>iV (bm C (o2 C fb h) b (some (.cells c n (.grow [])))) λh=>some h
   |_=>none))<|none
 |_=>none
def jR(h:U an)(bd:Nat)(x:H):Option (Nat×List H):=
 match x with
 | .aU=>some (0,[])
 | .slice b W len _=>(match k9 C h b W (len*bd)with|some l=>some (len,l)|none=>none)
 | .e5 b W len _=>(match k9 C h b W (len*bd)with|some l=>some (len,l)|none=>none)
 | .str s=>bC (Nat.beq bd 1) (some (s.length,s.map λn=>H.int .u8 (Int.ofNat n))) none
 |_=>none
inductive dz where
 |val (v:H)
 |eW (v:H) (h:U an) (k:Nat)
 |enter (f:Nat) (args:List H)
 |known (f:Nat) (args:List H) (v:H)
 |round (l:Nat) (args:List H)
 |defer (d:hj)
 |recover
 |panic (v:H)
 |fork (l:List (H×U an))
def lq(C:aX)(h:U an)(k:Nat)(W:an)(B:Nat->H):Option dz:=
 pu k λk=>iV (bm C h k (some W)) λh=>some (.eW (B k) h (k+1))
def sA(h:U an)(k n bd:Nat)(l:List H):Option dz:=
 bC (Nat.ble n 1048576) (lq C h k (.cells (U.ofList l 0 .nil) l.length (.grow [])) λb=> .e5 b 0 n bd)<|none
def F2(h:U an)(k:Nat)(b W len bd n:Nat)(l:List H):Option dz:=
 match ab C h b with
 |some (
   .cells c size (.grow fb))=>bC (ke C b)
  (bC (
   Nat.ble (W+(len+n)*bd) size)
   (match q7 C h b (W+len*bd) l with|some V=>some (.eW (.e5 b W (len+n) bd) V k)|none=>none)
   (bC (Nat.ble (len+n) 1048576&&kl l) (bC (Nat.beq (W+len*bd) size&&Nat.beq W 0)
    (iV (d0 c size l) λgx=>lq C (bm C h b (some (.cells c size .jJ))) k (.cells gx (size+l.length) (.grow (b::fb))) λea=> .e5 ea 0 (len+n) bd)
    (match c.jL W (len*bd)with
    |some fx=>lq C (bm C (o2 C fb h) b none) k (.cells (U.ofList (fx++l) 0 .nil) (fx++l).length (.grow [])) λea=> .e5 ea 0 (len+n) bd
    |none=>none)) none)) none
 |_=>none
def wN(h:U an)(k:Nat)(bd n:Nat)(l:List H)(s:H):Option dz:=
 match s with
 | .aU=>sA C h k n bd l
 | .slice b W len cap=>bC (Nat.ble (len+n) cap) ((match q7 C h b (W+len*bd) l with|some V=>some (.eW (.slice b W (len+n) cap) V k)|none=>none))<|(match k9 C h b W (len*bd)with
    |some fx=>sA C h k (len+n) bd (fx++l)
    |none=>none)
 | .e5 b W len wu=>bC (Nat.beq wu bd) (F2 C h k b W len bd n l)<|none
 |_=>none
def Dn(h:U an)(bd:Nat)(s:H):Option dz:=
 match s with
 | .aU=>some (.val .aU)
 | .slice b W len cap=>bC (Nat.ble len cap) (some (.val (.slice b W len cap))) none
 | .e5 b W len wu=>bC (Nat.beq wu bd) (match x6 C h b with
   |some n=>bC (Nat.ble (W+len*bd) n) (some (.val (.e5 b W len wu))) none
   |none=>none) none
 |_=>none
def Jj(h:U an)(k:Nat)(st:Nat)(s:H)(n:Nat):Option dz:=
 match C.P.underlying st with
 |some (.slice dE)=>(match C.P.info? dE,qa C dE with
  |some i,some bl=>bC (Nat.blt 0 i.size&&Nat.ble i.bytes 65536&&Nat.beq bl.cells.length i.size&&Nat.ble n 1048576) (bC (Nat.beq n 0) (Dn C h i.size s)<|wN C h k i.size n (jG n bl.cells) s)<|none
  |_,_=>none)
 |_=>none
def acO(i:TypeInfo):Bool:=match i.zero with|some bl=>Nat.beq bl.cells.size i.size|none=>false
def Di(h:U an)(k:Nat)(st:Nat)(s x:H):Option dz:=
 match C.P.underlying st with
 |some (.slice dE)=>(match C.P.info? dE with
  |some i=>(match jR C h i.size x with
   |some (n,l)=>bC (Nat.blt 0 i.size&&Nat.ble i.bytes 65536&&acO i) ((bC (Nat.beq n 0) (Dn C h i.size s)<|wN C h k i.size n l s))<|none
   |none=>none)
  |none=>none)
 |_=>none
def JE(h:U an)(k:Nat)(b W m:Nat)(l:List H):Option dz:=
 bC (Nat.beq m 0) (some (.val (.int .i64 0)))<|
 (match q7 C h b W l with|some V=>some (.eW (.int .i64 (Int.ofNat m)) V k)|none=>none)
def Jh(h:U an)(k:Nat)(st:Nat)(d x:H):Option dz:=
 match C.P.underlying st with
 |some (.slice dE)=>(match iq C dE with
  |some bd=>(match jR C h bd x with
   |some (n,l)=>(match d with
    | .aU=>some (.val (.int .i64 0))
    | .slice b W len _=>JE C h k b W (min n len) (l.take (min n len*bd))
    | .e5 b W len _=>JE C h k b W (min n len) (l.take (min n len*bd))
    |_=>none)
   |none=>none)
  |none=>none)
 |_=>none
def Jg(h:U an)(k:Nat)(t:Nat)(x:H):Option dz:=
 match C.P.underlying t with
 |some (.slice dE)=>(match iq C dE,qa C dE with
  |some bd,some bl=>bC (Nat.beq bl.cells.length bd) (match x with
   | .aU=>some (.val (.tuple []))
   | .slice b W len _=>bC (Nat.beq len 0) (some (.val (.tuple []))) (match q7 C h b W (jG len bl.cells)with|some h=>some (.eW (.tuple []) h k)|none=>none)
   | .e5 b W len _=>bC (Nat.beq len 0) (some (.val (.tuple []))) (match q7 C h b W (jG len bl.cells)with|some h=>some (.eW (.tuple []) h k)|none=>none)
   |_=>none) none
  |_,_=>none)
 |_=>none
def setObj(h:U an)(k:Nat)(r:Nat)(W:an)(v:H):Option dz:=
 bC (ke C r) (iV (bm C h r (some W)) λh=>some (.eW v h k))<|none
def FX(h:U an)(k:Nat)(t:Nat)(m B v:H):Option dz:=
 match C.P.underlying t,m with
 |some (.map hd _), .map r=>(match ab C h r with
  |some (.map a2 cw)=>bC (lP C 20 hd B) (match findKey C h hd B a2 0 with
   |some (some (i,_))=>(match o6 a2 i with
    |some (eA,_,born)=>bC (nz 20 eA B) (setObj C h k r (.map (a2.set i (B,v,born)) cw) undef) none
    |none=>none)
   |some none=>setObj C h k r (.map (a2++[(B,v,cw)]) (cw+1)) undef
   |none=>none) none
  |_=>none)
 |_,_=>none
def Ji(h:U an)(k:Nat)(t:Nat)(m B:H):Option dz:=
 match C.P.underlying t,m with
 |some (.map hd _), .map r=>(match ab C h r with
  |some (.map a2 cw)=>bC (lP C 20 hd B) (match findKey C h hd B a2 0 with
   |some (some (i,_))=>setObj C h k r (.map (a2.eraseIdx i) cw) (.tuple [])
   |some none=>setObj C h k r (.map a2 cw) (.tuple [])
   |none=>none) none
  |_=>none)
 |_,_=>none
def L7(x j:H):Bool:=match x,j with
    | .bool I, .bool b=>Jw I b
    | .int B I, .int eA b=>lE B eA&&xG I b
    | .str I, .str b=>mb I b
    | .aU, .aU=>true
    | .cI, .cI=>true
    | .nilIface, .nilIface=>true
    |_,_=>false
def CK:List H->List H->Bool
 |[],[]=>true
 |I::x,b::j=>L7 I b&&CK x j
 |_,_=>false
def known(f:Nat)(args:List H):List (Nat×List H×H)->Option H
 |[]=>none
 |(g,cm,v)::l=>bC (Nat.beq f g&&CK args cm) (some v)<|known f args l
def q6(f:Nat)(args:List H):Option dz:=
 match C.hf f args with
 |some v=>some (.known f args v)
 |none=>(match C.P.funcs[f]? with
  |some fn=>(match fn.body with
   |some _=>some (.enter f args)
   |none=>none)
  |none=>none)
def yr(fn:Fn)(fl args:List H):Option dz:=
 match fn with
 | .func f=>q6 C f (args++fl)
 | .yield l=>some (.round l args)
 |_=>none
def Dj(h:U an)(t:Nat)(v:H)(name:String)(args:List H):Option dz:=
 match C.P.info? t with
 |some i=>(match i.methods.find? (·.name==name)with
  |some m=>bC m.path.isEmpty (match m.func,C.P.underlying t with
   |some (f,true),some (.pointer _)=>q6 C f (v::args)
   |some (f,false),some (.pointer E)=>(match oH C h E v with|some x=>q6 C f (x::args)|none=>none)
   |some (f,false),some _=>q6 C f (v::args)
   |_,_=>none) none
  |none=>none)
 |none=>none
def Mt(h:U an)(k s:Nat)(I v:H):Option dz:=
 match I with
 | .ptr b W=>bC (Nat.beq v.cells.length s&&Nat.blt 0 s) ((match q7 C h b W v.cells with|some V=>some (.eW undef V k)|none=>none))<|none
 |_=>none
def DU(t:Nat)(m B x:Operand)(h:U an)(k:Nat)(aw:Operand->Option H):Option dz:=
 match aw m,aw B,aw x with
 |some m,some B,some v=>FX C h k t m B v
 |_,_,_=>none
def GW(t:Nat)(m B:Operand)(h:U an)(k:Nat)(aw:Operand->Option H):Option dz:=
 match C.P.underlying t,aw m,aw B with
 |some (.map hd su),some (.map r),some B=>(match ab C h r with
  |some (.map a2 cw)=>bC (lP C 20 hd B) (match findKey C h hd B a2 0 with
   |some (some (i,v))=>(match o6 a2 i with
    |some (eA,gO,born)=>bC (nz 20 eA B) (setObj C h k r (.map (a2.set i (B,gO,born)) cw) (.tuple [v, .int .i64 (Int.ofNat born)])) none
    |none=>none)
   |some none=>(match qa C su with
    |some bl=>setObj C h k r (.map (a2++[(B,bl,cw)]) (cw+1)) (.tuple [bl, .int .i64 (Int.ofNat cw)])
    |none=>none)
   |none=>none) none
  |_=>none)
 |_,_,_=>none
def GO(m s x:Operand)(h:U an)(k:Nat)(aw:Operand->Option H):Option dz:=
 match aw m,aw s,aw x with
 |some (.map r),some (.int _ (.ofNat born)),some v=>(match ab C h r with
  |some (.map a2 cw)=>(match a2.findIdx? (λE=>Nat.beq E.2.2 born)with
   |some i=>(match o6 a2 i with
    |some (B,_,b)=>setObj C h k r (.map (a2.set i (B,v,b)) cw) undef
    |none=>none)
   |none=>none)
  |_=>none)
 |_,_,_=>none
def GV(t:Nat)(l c:Operand)(h:U an)(k:Nat)(aw:Operand->Option H):Option dz:=
 match C.P.underlying t,aw l,aw c with
 |some (.slice dE),some l,some c=>(match m4 l,m4 c,C.P.info? dE,qa C dE with
  |some l,some c,some i,some bl=>bC (Nat.ble l c&&Nat.ble c 1048576&&Nat.ble i.bytes 65536&&Nat.blt 0 i.size&&Nat.beq bl.cells.length i.size) (lq C h k (.cells (U.ofList (jG c bl.cells) 0 .nil) (c*i.size) .own) λb=> .slice b 0 l c)<|none
  |_,_,_,_=>none)
 |_,_,_=>none
def GU(t:Nat)(r:Operand)(h:U an)(k:Nat)(aw:Operand->Option H):Option dz:=
 match C.P.underlying t,aw r with
 |some (.map _ _),some (.int _ _)=>lq C h k (.map [] 0) λb=> .map b
 |_,_=>none
def GZ(s d:Nat)(x:Operand)(h:U an)(k:Nat)(aw:Operand->Option H):Option dz:=
 match C.P.underlying s,C.P.underlying d,aw x with
 |some .string,some (.slice E),some (.str l)=>(match C.P.underlying E with
  |some (.int .u8)=>sA C h k l.length 1 (l.map λn=>H.int .u8 (Int.ofNat n))
  |_=>none)
 |some (.slice _),some (.slice E),some (.slice b W len cap)=>(match C.P.underlying E with
  |some (.int .u8)=>bC (Nat.beq s d&&ke C b) (match ab C h b with
   |some (.cells c n .own)=>iV (bm C h b (some (.cells c n .marked))) λh=>some (.eW (.slice b W len cap) h k)
   |some (.cells _ _ .marked)=>some (.val (.slice b W len cap))
   |_=>none) none
  |_=>none)
 |_,_,_=>none
def GX(t:Nat)(x:Operand)(h:U an)(k:Nat)(aw:Operand->Option H):Option dz:=
 match C.P.underlying t,aw x with
 |some .string,some (.str s)=>lq C h k (.nJ s 0) λb=> .ptr b 0
 |some (.map _ _),some .kH=>lq C h k (.hz none 0 [] 0) λb=> .ptr b 0
 |some (.map _ _),some (.map r)=>(match ab C h r with
  |some (.map _ cw)=>lq C h k (.hz (some r) cw [] cw) λb=> .ptr b 0
  |_=>none)
 |_,_=>none
def l9(n:Nat):List Nat->Bool
 |[]=>false
 |I::l=>Nat.beq n I||l9 n l
def g2(seen:List Nat):List (H×H×Nat)->List (H×H×Nat)
 |[]=>[]
 |E::a2=>bC (l9 E.2.2 seen) (g2 seen a2) (E::g2 seen a2)
def vn(d4:Nat):List (H×H×Nat)->Bool
 |[]=>true
 |E::a2=>Nat.blt E.2.2 d4&&vn d4 a2
def se(d4:Nat):List (H×H×Nat)->Bool
 |[]=>false
 |E::a2=>Nat.blt E.2.2 d4||se d4 a2
def yM(C:aX)(h:U an)(r m d4 cw:Nat)(seen:List Nat):List (H×H×Nat)->List (H×U an)
 |[]=>[]
 |(B,v,b)::l=>(.tuple [.bool true,B,v],bm C h r (some (.hz (some m) d4 (seen++[b]) cw)))::yM C h r m d4 cw seen l
def Dt:List (H×H×Nat)->List Nat->Bool
 |[],[]=>true
 |E::a2,b::cN=>Nat.beq E.2.2 b&&Dt a2 cN
 |_,_=>false
def JD(C:aX)(h:U an)(r:Nat)(W:Option Nat->an):List (H×H×Nat)->List (H×U an)
 |[]=>[]
 |(B,v,b)::l=>(.tuple [.bool true,B,v],bm C h r (some (W (some b))))::JD C h r W l
def oR(dY:Operand)(xI:Bool)(h:U an)(k:Nat)(aw:Operand->Option H):Option dz:=
 match aw dY with
 |some (.ptr r 0)=>bC (ke C r) (match ab C h r,xI with
  |some (.nJ s pos),true=>bC (Nat.blt pos s.length) (match o6 s pos with
    |some c=>bC (Nat.blt c 128) (setObj C h k r (.nJ s (pos+1)) (.tuple [.bool true, .int .i64 (Int.ofNat pos), .int .i32 (Int.ofNat c)])) none
    |none=>none)
   (some (.val (.tuple [.bool false])))
  |some (.hz none _ _ _),false=>some (.val (.tuple [.bool false]))
  |some (.hz (some m) d4 seen kM),false=>(match ab C h m with
   |some (.map a2 cw)=>(match g2 seen a2 with
    |[]=>bC (vn d4 a2) (bC (se kM a2||seen.isEmpty||a2.isEmpty) (some (.val (.tuple [.bool false]))) none) none
    |[(B,v,b)]=>bC (vn d4 a2&&se kM a2) (setObj C h k r (.hz (some m) d4 (seen++[b]) cw) (.tuple [.bool true,B,v])) none
    |l=>bC (vn d4 a2&&se kM a2) (some (.fork (yM C h r m d4 cw seen l))) none)
   |_=>none)
  |some (.uD m d4 n cN st _),false=>(match ab C h m with
   |some (.map a2 cw)=>bC ((Dt a2 cN&&Nat.beq st cw)&&(vn d4 a2&&se st a2)) (match n with
    |0=>some (.val (.tuple [.bool false]))
    |n+1=>some (.fork ((.tuple [.bool false],h)::JD C h r (.uD m d4 n cN st) a2))) none
   |_=>none)
  |_,_=>none) none
 |_=>none
def OV(x:Operand)(_:U an)(_:Nat)(aw:Operand->Option H):Option dz:=
 match aw x with|some (.iface t v)=>some (.panic (.iface t v))|_=>none
def OJ(c:Call)(_:U an)(_:Nat)(aw:Operand->Option H):Option dz:=
 match c with
 |⟨.value f,args,_⟩=>(match aw f,oQ aw args.toList with
  |some (.func fn first fl),some cm=>some (.defer ⟨.fn fn fl,first++cm⟩)
  |_,_=>none)
 |_=>none
def GK(b:Builtin)(args:Array Operand)(cM:Array TypeId)(h:U an)(k:Nat)(aw:Operand->Option H):Option dz:=
 match b,oQ aw args.toList with
 | .append,some [s,x]=>(match cM.toList with
   |st::h9::_=>(match C.P.underlying h9 with
    |some (.int _)=>(match m4 x with|some n=>Jj C h k st s n|none=>none)
    |some (.slice _)=>Di C h k st s x
    |some .string=>Di C h k st s x
    |_=>none)
   |_=>none)
 | .copy,some [d,x]=>(match cM.toList with
   |st::_=>Jh C h k st d x
   |_=>none)
 | .recover,some []=>some .recover
 | .clear,some [x]=>(match cM.toList with
   |t::_=>Jg C h k t x
   |_=>none)
 | .delete,some [m,B]=>(match cM.toList with
   |t::_=>Ji C h k t m B
   |_=>none)
 |_,_=>none
def BF(c:Call)(h:U an)(k:Nat)(aw:Operand->Option H):Option dz:=
 match c with
 |⟨.value f,args,_⟩=>(match aw f,oQ aw args.toList with
  |some (.func fn first fl),some cm=>yr C fn fl (first++cm)
  |_,_=>none)
 |⟨.builtin b,args,cM⟩=>GK C b args cM h k aw
 |⟨.invoke r name,args,_⟩=>(match aw r,oQ aw args.toList with
  |some (.iface t v),some cm=>Dj C h t v name cm
  |_,_=>none)
def mO(W:Op):aX->U an->Nat->(Operand->Option H)->Option dz:=
 match W with
 | .mapUpdate t m B x=>λC=>DU C t m B x
 | .insert t m B x=>λC=>DU C t m B x
 | .mapEntry t m B=>λC=>GW C t m B
 | .entryStore _ m s x=>λC=>GO C m s x
 | .makeSlice t l c=>λC=>GV C t l c
 | .makeMap t (some r)=>λC=>GU C t r
 | .convert s d x=>λC=>GZ C s d x
 | .range t x=>λC=>GX C t x
 | .next dY xI=>λC=>oR C dY xI
 | .panic x=>λ_=>OV x
 | .defer c=>λ_=>OJ c
 | .call c=>λC=>BF C c
 |_=>λ_ _ _ _=>none
end aq
def kz(x:jU):List (Nat×H)->U H->Option H:=
 match x with
 | .v aa=>λak _=>d8 ak aa
 | .t n=>λ_ J=>J.get n
 | .c I=>λ_ _=>some I
def yG(ak:List (Nat×H))(J:U H):List jU->Option (List H)
 |[]=>some []
 |x::l=>match kz x ak J with
  |none=>none
  |some v=>match yG ak J l with
   |none=>none
   |some r=>some (v::r)
def iI(bT:List (Nat×Nat))(ak:List (Nat×H))(J:U H)(W:Operand):Option H:=match W with
 | .tmp t=>(match d8 bT t with|some aa=>d8 ak aa|none=>J.get t)
 | .const v=>CC v
 | .global g=>some (.ptr g 0)
 | .func f=>some (.func (.func f) [] [])
def bf(d:Nat)(v:H):Option H:=match v with| .ptr b W=>some (.ptr b (W+d))|_=>none
def MM(c:H)(I b:jU)(ak:List (Nat×H))(J:U H):Option H:=match c with
 | .bool c=>bC c (kz I ak J) (kz b ak J)
 |_=>none
def IY(n bd:Nat)(x:H)(i:Nat):Option H:=match x with| .ptr b W=>bC (Nat.blt i n) (some (.ptr b (W+i*bd))) none|_=>none
def A1(bd:Nat)(x:H)(i:Nat):Option H:=match x with
 | .slice b W len _=>bC (Nat.blt i len) (some (.ptr b (W+i*bd))) none
 | .e5 b W len _=>bC (Nat.blt i len) (some (.ptr b (W+i*bd))) none
 |_=>none
def cz(v:H):Option H:=match v with
 | .ptr b W=>some (.ptr b W)
 | .func fn I b=>(match fn with| .func f=>some (.func (.func f) I b)| .yield f=>some (.func (.yield f) I b)|_=>none)
 | .iface t v=>some (.iface t v)
 |_=>none
def c9(i:Nat)(v:H):Option H:=match v with| .tuple br=>o6 br i|_=>none
def gp(W:jl):aX->U an->List (Nat×H)->U H->Option H:=
 match W with
 | .Cr x=>λ_ _=>kz x
 | .pick c I b=>λ_ _ ak J=>(match kz c ak J with|some c=>MM c I b ak J|none=>none)
 | .fy I=>λC h ak J=>(match kz I ak J with|some I=>ao C h I|none=>none)
 | .As n I=>λC h ak J=>(match kz I ak J with|some I=>cL C h n I|none=>none)
 | .off d x=>λ_ _ ak J=>(match kz x ak J with|some I=>bf d I|none=>none)
 | .Aj n bd x i=>λ_ _ ak J=>(match kz x ak J with|some I=>(match kz i ak J with|some i=>(match m4 i with|some i=>IY n bd I i|none=>none)|none=>none)|none=>none)
 | .Ak bd x i=>λ_ _ ak J=>(match kz x ak J with|some I=>(match kz i ak J with|some i=>(match m4 i with|some i=>A1 bd I i|none=>none)|none=>none)|none=>none)
 | .Cy x=>λ_ _ ak J=>(match kz x ak J with|some I=>cz I|none=>none)
 | .HN op x j=>λ_ _ ak J=>(match kz x ak J with|some I=>(match kz j ak J with|some b=>aL op I b|none=>none)|none=>none)
 | .ext i x=>λ_ _ ak J=>(match kz x ak J with|some I=>c9 i I|none=>none)
 | .hQ bT W=>λC h ak J=>nf W C h (iI bT ak J)
 |_=>λ_ _ _ _=>none
def nl(W:jl):aX->Nat->List (Nat×H)->U H->Option (H×an):=
 match W with
 | .make bT W=>λC b ak J=>pm W C (iI bT ak J) b
 |_=>λ_ _ _ _=>none
def hs(W:jl):aX->U an->Nat->List (Nat×H)->U H->Option dz:=
 match W with
 | .st n I v=>λC h k ak J=>(match kz I ak J with|some I=>(match kz v ak J with|some v=>Mt C h k n I v|none=>none)|none=>none)
 | .call f args=>λC _ _ ak J=>(match yG ak J args with|some cm=>q6 C f cm|none=>none)
 | .e1 bT W=>λC h k ak J=>mO W C h k (iI bT ak J)
 |_=>λ_ _ _ _ _=>none
inductive ac0 where|hQ|make|e1
def l6(W:jl):ac0:=match W with
 | .st .. => .e1| .call .. => .e1| .e1 .. => .e1
 | .make .. => .make
 |_=> .hQ
def LH(W:jl)(C:aX)(h:U an)(k:Nat)(ak:List (Nat×H))(J:U H):Option dz:=
 pu k λk=>(match nl W C k ak J with|some (v,cJ)=>iV (bm C h k (some cJ)) λh=>some (.eW v h (k+1))|none=>none)
def e7(m i:Nat):Bool:=Nat.beq (Nat.mod (Nat.div m (Nat.pow 2 i)) 2) 1
def mf(bT:List (Nat×Nat))(W:Operand):Option jU:=match W with
 | .tmp t=>(match d8 bT t with|some aa=>some (.v aa)|none=>some (.t t))
 | .const v=>(match CC v with|some I=>some (.c I)|none=>none)
 | .global g=>some (.c (.ptr g 0))
 | .func f=>some (.c (.func (.func f) [] []))
def Fw(bT:List (Nat×Nat)):List Operand->Option (List jU)
 |[]=>some []
 |x::l=>match mf bT x,Fw bT l with|some v,some r=>some (v::r)|_,_=>none
def anX(C:aX)(s d:Nat):Bool:=match C.P.underlying s,C.P.underlying d with
 |some .string,some (.slice _)=>true
 |some (.slice _),some (.slice _)=>true
 |_,_=>false
def anU(C:aX)(t:Nat):Bool:=match C.P.underlying t with|some (.int _)=>true|_=>false
def k8(C:aX)(bT:List (Nat×Nat))(W:Op):Option jl:=
 match W with
 | .move x| .assign x=>(match mf bT x with|some x=>some (.Cr x)|none=>none)
 | .pick c I b=>(match mf bT c,mf bT I,mf bT b with|some c,some I,some b=>some (.pick c I b)|_,_,_=>none)
 | .load t I=>(match mf bT I,Cf C t,iq C t with
   |some I,some true,some s=>some (.As s I)
   |some I,some false,_=>some (.fy I)
   |_,_,_=>none)
 | .fieldAddr s x f=>(match C.P.underlying s,mf bT x with
   |some (.struct ju),some x=>(match o6 ju.toList f with
    |some rf=>(match iq C rf.type with|some bl=>bC (Nat.beq bl 0) (none)<|some (.off rf.offset x)|none=>none)
    |none=>none)
   |_,_=>none)
 | .indexAddr t x i=>(match C.P.underlying t,mf bT x,mf bT i with
   |some (.array n dE),some x,some i=>(match iq C dE with|some bd=>some (.Aj n bd x i)|none=>none)
   |some (.slice dE),some x,some i=>(match iq C dE with|some bd=>some (.Ak bd x i)|none=>none)
   |_,_,_=>none)
 | .nilCheck x=>(match mf bT x with|some x=>some (.Cy x)|none=>none)
 | .binOp op t x j FB=>bC (anU C t) ((match mf bT x,mf bT j with|some x,some j=>some (.HN op x j)|_,_=>none))<|some (.hQ bT (.binOp op t x j FB))
 | .extract x i=>(match mf bT x with|some x=>some (.ext i x)|none=>none)
 | .store t I x=>(match mf bT I,mf bT x,iq C t with|some I,some x,some s=>some (.st s I x)|_,_,_=>none)
 | .call ⟨.value (.func f),args,cM⟩=>(match Fw bT args.toList with|some cm=>some (.call f cm)|none=>none)
 | .call ⟨.builtin b,args,cM⟩=>(match b with
   | .len| .cap| .max| .min=>some (.hQ bT (.call ⟨.builtin b,args,cM⟩))
   |_=>some (.e1 bT (.call ⟨.builtin b,args,cM⟩)))
 | .call c=>some (.e1 bT (.call c))
 | .convert s d x=>bC (anX C s d) (some (.e1 bT (.convert s d x)))<|some (.hQ bT (.convert s d x))
 | .alloc t=>some (.make bT (.alloc t))
 | .box t x=>some (.make bT (.box t x))
 | .buildSlice t l p=>some (.make bT (.buildSlice t l p))
 | .makeMap t none=>some (.make bT (.makeMap t none))
 | .makeMap t (some r)=>some (.e1 bT (.makeMap t (some r)))
 | .mapUpdate t m B x=>some (.e1 bT (.mapUpdate t m B x))
 | .insert t m B x=>some (.e1 bT (.insert t m B x))
 | .mapEntry t m B=>some (.e1 bT (.mapEntry t m B))
 | .entryStore t m s x=>some (.e1 bT (.entryStore t m s x))
 | .makeSlice t l c=>some (.e1 bT (.makeSlice t l c))
 | .range t x=>some (.e1 bT (.range t x))
 | .next i s=>some (.e1 bT (.next i s))
 | .panic x=>some (.e1 bT (.panic x))
 | .defer c=>some (.e1 bT (.defer c))
 |W=>some (.hQ bT W)
def vw(aa:Nat):List (Nat×Nat)->Option Nat
 |[]=>none
 |(t,i)::l=>bC (Nat.beq i aa) (some t)<|vw aa l
def Ga(dZ:List (Nat×Nat))(g:Option (Nat×Bool)):Option (Option (Nat×Bool)):=match g with
 |none=>some none
 |some (aa,k2)=>(match vw aa dZ with
  |some t=>(match d8 dZ t with
   |some ny=>bC (Nat.beq aa ny) (some (some (aa,k2)))<|none
   |none=>none)
  |none=>none)
def wL(W:Oper)(i:Nat)(dZ:List (Nat×Nat)):List (Nat×Nat):=match W.dst with|some d=>(d,i)::dZ|none=>dZ
def JO(n:Nat)(W:Oper):Bool:=match W.dst with|some d=>Nat.blt d n|none=>true
def xV(C:aX)(ap:Nat)(bT:List (Nat×Nat))(W:Operand):Bool:=match W with
 | .tmp t=>(match d8 bT t with|some _=>true|none=>e7 ap t)
 | .global g=>Nat.blt g C.oh
 |_=>true
def CE(C:aX)(ap:Nat)(bT:List (Nat×Nat)):List Operand->Bool
 |[]=>true
 |x::l=>xV C ap bT x&&CE C ap bT l
def ra(C:aX)(n ap:Nat):List Oper->Nat->List (Nat×Nat)->Option (List e4)
 |[],_,_=>some []
 |W::l,i,dZ=>pu i λi=>match Ga dZ W.guard,k8 C dZ W.op with
  |some g,some op=>bC (JO n W&&CE C ap dZ W.op.operands.toList) (match ra C n ap l (i+1) (wL W i dZ)with|some r=>some (⟨i,g,op⟩::r)|none=>none) none
  |_,_=>none
def kA(ap:Nat):List Oper->Nat->List (Nat×Nat)
 |[],_=>[]
 |W::l,i=>match W.dst with
  |some d=>bC (e7 ap d) ((i,d)::kA ap l (i+1))<|kA ap l (i+1)
  |none=>kA ap l (i+1)
def dstsOf:List Oper->List Nat
 |[]=>[]
 |W::l=>match W.dst with|some d=>d::dstsOf l|none=>dstsOf l
structure MU where
 rest:List e4
 fin:List (Nat×Nat)
def If(C:aX)(n:Nat)(aq:Array Oper)(ap:Nat):Option MU:=
 match ra C n ap aq.toList 0 []with
 |some cs=>some ⟨cs,kA ap aq.toList 0⟩
 |none=>none
def E5(W:Operand)(m:Nat):Nat:=match W with| .tmp t=>Nat.lor m (Nat.pow 2 t)|_=>m
def E6(l:List Operand):Nat:=l.foldr E5 0
def Gm(W:Oper):Nat:=match W.dst with|some d=>Nat.pow 2 d|none=>0
def Km(dZ:List (Nat×Nat))(g:Option (Nat×Bool)):Nat:=match g with
 |none=>0
 |some (aa,_)=>(match vw aa dZ with|some t=>Nat.pow 2 t|none=>0)
def Bs(h7:List (Nat×Nat))(E:Edge)(m:Nat):Nat:=
 bC (e7 m E.on) (m)<|bC (Region.binds .any E) ((match d8 h7 E.on with|some B=>Nat.lor (Nat.lor m B) (Nat.pow 2 E.on)|none=>m))<|m
structure fS where
 i:Nat
 m:Nat
 r:Nat
 w:Nat
def Ax:List Oper->Nat->List (Nat×Nat)->List (Nat×Nat)->List fS
 |[],_,_,_=>[]
 |W::l,i,dZ,h7=>pu i λi=>pu (W.after.toList.foldr (Bs h7) 0) λm=>
  ⟨i,m,Nat.lor (E6 W.op.operands.toList) (Km dZ W.guard),Gm W⟩::Ax l (i+1) (wL W i dZ) ((i,m)::h7)
def L0(I b:fS):Bool:=
 e7 b.m I.i||(Nat.beq (Nat.land I.w (Nat.lor b.r b.w)) 0&&Nat.beq (Nat.land b.w I.r) 0)
def L1(I:fS):List fS->Bool
 |[]=>true
 |b::l=>L0 I b&&L1 I l
def Iq:List fS->Bool
 |[]=>true
 |I::l=>L1 I l&&Iq l
def Hd:List fS->Bool
 |[]=>true
 |I::l=>(match l with|[]=>true|b::_=>e7 b.m I.i)&&Hd l
def CD:List Oper->Nat->Bool
 |[],_=>true
 |W::l,i=>W.after.toList.all (λE=> !Region.binds .any E||Nat.blt E.on i)&&CD l (i+1)
def tt(m:Nat):List fS->Nat
 |[]=>0
 |a::l=>bC (e7 m a.i) (Nat.succ (tt m l))<|tt m l
def y1(i:Nat):List fS->Nat
 |[]=>0
 |a::l=>bC (e7 a.m i) (0)<|Nat.succ (y1 i l)
structure oE where
 x:e4
 bP:Nat
 aN:Nat
def mZ(W:jl):Bool:=match l6 W with| .e1=>true|_=>false
def D2:List fS->List e4->List (fS×e4)
 |p::c8,c::cs=>bC (mZ c.op) ((p,c)::D2 c8 cs)<|D2 c8 cs
 |_,_=>[]
def EN(aH:List fS):List fS->List e4->List oE
 |p::c8,c::cs=>bC (mZ c.op) (EN aH c8 cs)<|⟨c,tt p.m aH,y1 p.i aH⟩::EN aH c8 cs
 |_,_=>[]
def si(B:Nat):List oE->List e4
 |[]=>[]
 |l::h6=>bC (Nat.beq l.bP B) (l.x::si B h6)<|si B h6
def CP(B:Nat):List oE->List e4
 |[]=>[]
 |l::h6=>bC (Nat.blt l.bP B&&Nat.ble B l.aN&&AR l.x.op) (l.x::CP B h6)<|CP B h6
def xQ(h6:List oE):Nat->List (fS×e4)->List vl
 |B,[]=>[⟨si B h6,CP B h6,none⟩]
 |B,(_,ag)::l=>⟨si B h6,CP B h6,some ag⟩::xQ h6 (B+1) l
def pv:List (fS×e4)->List fS
 |[]=>[]
 |(p,_)::l=>p::pv l
structure MT where
 kL:List vl
 fin:List (Nat×Nat)
def Ie(C:aX)(n:Nat)(aq:Array Oper)(ap:Nat):Option MT:=
 match ra C n ap aq.toList 0 []with
 |none=>none
 |some cs=>(λall=>(λaH=>bC (CD aq.toList 0&&Iq all&&Hd (pv aH)) (some ⟨xQ (EN (pv aH) all cs) 0 aH,kA ap aq.toList 0⟩)<|none) (D2 all cs)) (Ax aq.toList 0 [] [])
def Vs:List Oper->Nat->Nat->Nat
 |[],_,r=>r
 |W::l,U8,r=>Vs l (Nat.lor U8 (Gm W)) ((λrd=>Nat.lor r (Nat.xor rd (Nat.land rd U8))) (E6 W.op.operands.toList))
def jP:Code->Nat
 | .region _ aq _=>Vs aq.toList 0 0
 | .seq I b=>Nat.lor (jP I) (jP b)
 | .cond c I b=>E5 c (Nat.lor (jP I) (jP b))
 | .block _ b=>jP b
 | .loop b=>jP b
 | .scope b=>jP b
 | .rangeFunc f _ I b=>E5 f (Nat.lor (jP I) (jP b))
 |_=>0
def m6(l:List ResultVar):Nat:=l.foldr (λx r=>match x with| .tmp t=>Nat.lor r (Nat.pow 2 t)| .cell I _=>Nat.lor r (Nat.pow 2 I)) 0
def la(C:aX)(ap:Nat):Code->Bool
 | .seq I b=>la C ap I&&la C ap b
 | .cond c I b=>xV C ap [] c&&(la C ap I&&la C ap b)
 | .block _ b=>la C ap b
 | .loop b=>la C ap b
 | .scope b=>la C ap b
 | .rangeFunc f _ I b=>xV C ap [] f&&(la C ap I&&la C ap b)
 |_=>true
def xY(ap:Nat):List ResultVar->Bool
 |[]=>true
 | .tmp t::l=>e7 ap t&&xY ap l
 | .cell I _::l=>e7 ap I&&xY ap l
end
end Go.al

namespace Go.al
@[simp] theorem eB{α:Type _}(I b:α):bC true I b=I:=rfl
@[simp] theorem iF{α:Type _}(I b:α):bC false I b=b:=rfl
theorem fB{α:Type _}(c:Bool)(I b:α):bC c I b=if c=true then I else b:=by cases c<;>rfl
theorem gX{α:Type _}(x j:Nat)(I b:α):bC (Nat.beq x j) I b=if x=j then I else b:=by
 rw[fB];by_cases a:x=j
 ·rw[Zr a,Zr (Nat.beq_eq▸a)]
 ·rw[Zg a,Zg (λE=>a (Zi E))]
@[simp] theorem d9{α:Type _}(c:Bool)(I:Option α)(v:α):bC c I none=some v↔c=true/\I=some v:=by cases c<;>simp
@[simp] theorem li{er:Type}(n:Nat)(B:Nat->er):pu n B=B n:=by cases n<;>rfl
@[simp] theorem DG{er:Type}(n:Int)(B:Int->er):Og n B=B n:=by
  cases n with
  |ofNat m=>exact li m λm=>B (.ofNat m)
  |negSucc m=>exact li m λm=>B (.negSucc m)
@[simp] theorem gK{α er:Type}(t:U α)(B:U α->er):iV t B=B t:=by cases t<;>rfl
@[simp] theorem agV{α:Type}(aa:Nat):d8 ([]:List (Nat×α)) aa=none:=rfl
theorem qi{α:Type}(I:Nat)(b:α)(l:List (Nat×α))(aa:Nat):d8 ((I,b)::l) aa=if I=aa then some b else d8 l aa:=by
 show bC (Nat.beq I aa) (some b) (d8 l aa)=_
 rw[gX]
@[simp] theorem m5{α:Type}(l:List α):∀i,o6 l i=l[i]? :=by
  induction l with
  |nil=>intro i;rfl
  |cons I l ah=>intro i;cases i with
   |zero=>rfl
   |succ aa=>exact ah aa
namespace U
variable{α:Type}
@[simp] theorem auh(i:Nat):(U.nil:U α).get i=none:=rfl
@[simp] theorem aui(v:Option α)(l r:U α):(U.node v l r).get 0=v:=rfl
theorem yO(v:Option α)(l r:U α)(aa:Nat):(U.node v l r).get (aa+1)=if aa%2=0 then l.get (aa/2)else r.get (aa/2):=by
 show bC (Nat.beq (aa%2) 0) (l.get (aa/2)) (r.get (aa/2))=_
 rw[gX]
theorem arY(f:Nat)(I:Option α):qM (f+1) U.nil 0 I= .node I .nil .nil:=rfl
theorem arX(f aa:Nat)(I:Option α):qM (f+1) U.nil (aa+1) I=
 if aa%2=0 then .node none (qM f .nil (aa/2) I) .nil else .node none .nil (qM f .nil (aa/2) I):=by
 show bC (Nat.beq (aa%2) 0) (iV (qM f .nil (aa/2) I) λcd=>U.node none cd U.nil) (iV (qM f .nil (aa/2) I) λhq=>U.node none U.nil hq)=_
 rw[gX,gK,gK]
theorem ar0(f:Nat)(v:Option α)(l r:U α)(I:Option α):qM (f+1) (.node v l r) 0 I= .node I l r:=rfl
theorem arZ(f aa:Nat)(v:Option α)(l r:U α)(I:Option α):qM (f+1) (.node v l r) (aa+1) I=
 if aa%2=0 then .node v (qM f l (aa/2) I) r else .node v l (qM f r (aa/2) I):=by
 show bC (Nat.beq (aa%2) 0) (iV (qM f l (aa/2) I) λcd=>U.node v cd r) (iV (qM f r (aa/2) I) λhq=>U.node v l hq)=_
 rw[gX,gK,gK]
theorem ajZ:∀(f:Nat) (t:U α) (i aa:Nat) (I:Option α),i<f->(qM f t i I).get aa=if i=aa then I else t.get aa:=by
 intro f
 induction f with
 |zero=>intro t i aa I a;omega
 |succ f ah=>
  intro t i aa I a
  cases i with
  |zero=>
   cases t with
   |nil=>rw[arY];cases aa with
    |zero=>simp
    |succ aa=>rw[yO];simp
   |node v l r=>rw[ar0];cases aa with
    |zero=>simp
    |succ aa=>rw[yO,yO];simp
  |succ i=>
   have aN:i/2<f:=Zo
   cases t with
   |nil=>
    rw[arX]
    cases aa with
    |zero=>split<;>simp
    |succ aa=>
     by_cases E:i%2=0
     ·rw[Zr E,yO]
      by_cases gk:aa%2=0
      ·rw[Zr gk,ah _ _ _ _ aN]
       by_cases ar:i/2=aa/2
       ·rw[Zr ar,Zr Zo]
       ·rw[Zg ar,Zg Zo];rfl
      ·rw[Zg gk,Zg Zo];rfl
     ·rw[Zg E,yO]
      by_cases gk:aa%2=0
      ·rw[Zr gk,Zg Zo];rfl
      ·rw[Zg gk,ah _ _ _ _ aN]
       by_cases ar:i/2=aa/2
       ·rw[Zr ar,Zr Zo]
       ·rw[Zg ar,Zg Zo];rfl
   |node v l r=>
    rw[arZ]
    cases aa with
    |zero=>split<;>simp
    |succ aa=>
     rw[yO v l r]
     by_cases E:i%2=0
     ·rw[Zr E,yO]
      by_cases gk:aa%2=0
      ·rw[Zr gk,Zr gk,ah _ _ _ _ aN]
       by_cases ar:i/2=aa/2
       ·rw[Zr ar,Zr Zo]
       ·rw[Zg ar,Zg Zo]
      ·rw[Zg gk,Zg gk,Zg Zo]
     ·rw[Zg E,yO]
      by_cases gk:aa%2=0
      ·rw[Zr gk,Zr gk,Zg Zo]
      ·rw[Zg gk,Zg gk,ah _ _ _ _ aN]
       by_cases ar:i/2=aa/2
       ·rw[Zr ar,Zr Zo]
       ·rw[Zg ar,Zg Zo]
theorem kf(t:U α)(i aa:Nat)(I:Option α):(t.set i I).get aa=if i=aa then I else t.get aa:=ajZ _ _ _ _ _ Zo
theorem Kd(l:List α):∀(i:Nat) (t:U α) (aa:Nat),(ofList l i t).get aa=if i<=aa/\aa<i+l.length then l[aa-i]? else t.get aa:=by
 induction l with
 |nil=>intro i t aa;simp only[ofList,ZR];rw[Zg Zo]
 |cons I l ah=>
  intro i t aa
  simp only[ofList,gK]
  rw[ah,kf]
  by_cases E:i=aa
  ·subst E;rw[Zg Zo,Zr rfl,Zr Zs];simp
  ·rw[Zg E]
   by_cases ar:i+1<=aa/\aa<i+1+l.length
   ·rw[Zr ar,Zr (by simp;omega)]
    have:aa-i=(aa-(i+1))+1:=Zo
    rw[this,ZF]
   ·rw[Zg ar,Zg (by simp;omega)]
theorem Kc(t:U α):∀(n W:Nat) (l:List α),t.jL W n=some l->l.length=n/\∀i,i<n->t.get (W+i)=l[i]? :=by
 intro n
 induction n with
 |zero=>intro W l a;simp[jL]at a;subst a;simp
 |succ n ah=>
  intro W l a
  simp only[jL]at a
  cases bV:t.get W with
  |none=>simp[bV]at a
  |some I=>
   simp only[bV]at a
   cases S:jL t (W+1) n with
   |none=>simp[S]at a
   |some r=>
    simp only[S,Ze]at a
    subst a
    obtain⟨M,R⟩:=ah _ _ S
    refine⟨by simp[M],λi aN=> ?_⟩
    cases i with
    |zero=>simpa using bV
    |succ i=>rw[show W+(i+1)=W+1+i by omega,R i Zo];simp
end U
theorem Se(l:List H):∀(c:U H) (W:Nat),d0 c W l=U.ofList l W c:=by
 induction l with
 |nil=>intro c W;rfl
 |cons v l ah=>intro c W;simp only[d0,U.ofList,gK];exact ah _ _
structure lN where
 cq:Nat
 dJ:Nat
 room:Nat
 deriving Inhabited
abbrev cY:=Nat->lN
def mm(K:cY):Fn->Fn
 | .yield l=> .yield (K l).cq
 |f=>f
def fd(s:List Nat):ByteArray:=⟨(s.map UInt8.ofNat).toArray⟩
mutual
def aD(K:cY):H->Value
 | .bool b=> .bool b
 | .int B n=> .int B n
 | .str s=> .string (fd s)
 | .ptr b W=> .pointer (some ⟨(K b).cq,(K b).dJ+W,none⟩)
 | .cI=> .pointer none
 | .slice b W len cap=> .slice (some ⟨(K b).cq,(K b).dJ+W,none⟩) len cap
 | .e5 b W len bd=> .slice (some ⟨(K b).cq,(K b).dJ+W,none⟩) len (((K b).room-W)/bd)
 | .aU=> .slice none 0 0
 | .map m=> .map (some (K m).cq)
 | .kH=> .map none
 | .func fn I b=> .func (mm K fn) (bI K I).toArray (bI K b).toArray
 | .nilFunc=> .nilFunc
 | .iface t v=> .iface t (aD K v)
 | .nilIface=> .nilIface
 | .agg cs=> .agg (bI K cs).toArray
 | .tuple br=> .tuple (bI K br).toArray
def bI(K:cY):List H->List Value
 |[]=>[]
 |v::l=>aD K v::bI K l
end
theorem oM(K:cY)(l:List H):bI K l=l.map (aD K):=by
 induction l with
 |nil=>rfl
 |cons v l ah=>simp[bI,ah]
def Kf(Z:Nat->Prop):Fn->Prop
 | .yield l=>Z l
 | .func _=>True
 |_=>False
mutual
def b0(Z:Nat->Prop):H->Prop
 | .bool _=>True
 | .int _ _=>True
 | .str s=>∀x∈s,x<256
 | .ptr b _=>Z b
 | .cI=>True
 | .slice b _ _ _=>Z b
 | .e5 b _ _ _=>Z b
 | .aU=>True
 | .map m=>Z m
 | .kH=>True
 | .func fn I b=>Kf Z fn/\dW Z I/\dW Z b
 | .nilFunc=>True
 | .iface _ v=>b0 Z v
 | .nilIface=>True
 | .agg cs=>dW Z cs
 | .tuple br=>dW Z br
def dW(Z:Nat->Prop):List H->Prop
 |[]=>True
 |v::l=>b0 Z v/\dW Z l
end
theorem sx(Z:Nat->Prop)(l:List H):dW Z l↔∀v∈l,b0 Z v:=by
 induction l with
 |nil=>simp[dW]
 |cons v l ah=>simp[dW,ah]
mutual
theorem NI{K ia:cY}{Z:Nat->Prop}(a:∀b,Z b->K b=ia b):∀v,b0 Z v->aD K v=aD ia v
 | .bool _,_=>rfl
 | .int _ _,_=>rfl
 | .str _,_=>rfl
 | .ptr b W,g=>by simp only[aD,a b g]
 | .cI,_=>rfl
 | .slice b W l c,g=>by simp only[aD,a b g]
 | .e5 b W l c,g=>by simp only[aD,a b g]
 | .aU,_=>rfl
 | .map m,g=>by simp only[aD,a m g]
 | .kH,_=>rfl
 | .func fn I b,g=>by
   obtain⟨b9,b3,g3⟩:=g
   have E:mm K fn=mm ia fn:=by
    cases fn<;>simp only[mm]
    rw[a _ b9]
   simp only[aD,E,Dy a I b3,Dy a b g3]
 | .nilFunc,_=>rfl
 | .iface t v,g=>by simp only[aD,NI a v g]
 | .nilIface,_=>rfl
 | .agg cs,g=>by simp only[aD,Dy a cs g]
 | .tuple br,g=>by simp only[aD,Dy a br g]
theorem Dy{K ia:cY}{Z:Nat->Prop}(a:∀b,Z b->K b=ia b):∀l,dW Z l->bI K l=bI ia l
 |[],_=>rfl
 |v::l,g=>by simp only[bI,NI a v g.1,Dy a l g.2]
end
mutual
theorem nW{Z c7:Nat->Prop}(a:∀b,Z b->c7 b):∀v,b0 Z v->b0 c7 v
 | .bool _,_=>trivial
 | .int _ _,_=>trivial
 | .str _,g=>g
 | .ptr b _,g=>a b g
 | .cI,_=>trivial
 | .slice b _ _ _,g=>a b g
 | .e5 b _ _ _,g=>a b g
 | .aU,_=>trivial
 | .map m,g=>a m g
 | .kH,_=>trivial
 | .func fn I b,g=>⟨by cases fn<;>first|exact a _ g.1|exact g.1,qp a I g.2.1,qp a b g.2.2⟩
 | .nilFunc,_=>trivial
 | .iface _ v,g=>nW a v g
 | .nilIface,_=>trivial
 | .agg cs,g=>qp a cs g
 | .tuple br,g=>qp a br g
theorem qp{Z c7:Nat->Prop}(a:∀b,Z b->c7 b):∀l,dW Z l->dW c7 l
 |[],_=>trivial
 |v::l,g=>⟨nW a v g.1,qp a l g.2⟩
end
end Go.al

