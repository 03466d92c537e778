/- An evaluator of closed calls as plain data, and the facts on values and operations that it rests on; no condition. -/
import GoSem.Step
import Derived.Below
import Derived.ChangeKeysEq
import Derived.Laws.IdiomCopy
import Derived.Laws.Unary
import Derived.Laws.Wrap64
import Derived.Laws.StructEq
import Derived.Laws.BytesString
import Derived.Lib.Builder
import Derived.Lib.UnsafeStr
import Derived.MapKept
namespace Go.AE
noncomputable section

inductive Tr (α : Type) where
  | nil
  | node (v : Option α) (l r : Tr α)
  deriving Inhabited

universe u
def cnd {α : Type u} (c : Bool) (t e : α) : α := Bool.rec (motive := fun _ => α) e t c
def Tr.get {α : Type} (t : Tr α) : Nat → Option α :=
  Tr.rec (motive := fun _ => Nat → Option α) (fun _ => none)
    (fun v _ _ gl gr i => Nat.rec (motive := fun _ => Option α) v (fun j _ => cnd (Nat.beq (Nat.mod j 2) 0) (gl (Nat.div j 2)) (gr (Nat.div j 2))) i) t
def forceTr {α β : Type} (t : Tr α) (k : Tr α → β) : β :=
  Tr.rec (motive := fun _ => β) (k .nil) (fun v l r _ _ => k (.node v l r)) t
def Tr.setF {α : Type} (f : Nat) : Tr α → Nat → Option α → Tr α :=
  Nat.rec (motive := fun _ => Tr α → Nat → Option α → Tr α) (fun t _ _ => t)
    (fun _ ih t i a => Tr.rec (motive := fun _ => Tr α)
      (Nat.rec (motive := fun _ => Tr α) (.node a .nil .nil) (fun j _ => cnd (Nat.beq (Nat.mod j 2) 0)
        (forceTr (ih .nil (Nat.div j 2) a) fun l' => .node none l' .nil) (forceTr (ih .nil (Nat.div j 2) a) fun r' => .node none .nil r')) i)
      (fun v l r _ _ => Nat.rec (motive := fun _ => Tr α) (.node a l r) (fun j _ => cnd (Nat.beq (Nat.mod j 2) 0)
        (forceTr (ih l (Nat.div j 2) a) fun l' => .node v l' r) (forceTr (ih r (Nat.div j 2) a) fun r' => .node v l r')) i) t) f
def forceN {β : Type} (n : Nat) (k : Nat → β) : β := Nat.rec (motive := fun _ => β) (k 0) (fun m _ => k (Nat.succ m)) n
def forceI {β : Type} (n : Int) (k : Int → β) : β :=
  Int.rec (motive := fun _ => β) (fun m => forceN m fun m => k (.ofNat m)) (fun m => forceN m fun m => k (.negSucc m)) n
def assocN {α : Type} (l : List (Nat × α)) : Nat → Option α :=
  List.rec (motive := fun _ => Nat → Option α) (fun _ => none) (fun p _ ih j => Prod.rec (motive := fun _ => Option α) (fun a b => cnd (Nat.beq a j) (some b) (ih j)) p) l
--NATIVE
/-
def Tr.get {α : Type} : Tr α → Nat → Option α
  | .nil, _ => none
  | .node v _ _, 0 => v
  | .node _ l r, i + 1 => cnd (Nat.beq (i % 2) 0) (l.get (i / 2)) <| r.get (i / 2)
def forceTr {α β : Type} (t : Tr α) (k : Tr α → β) : β := k t
def Tr.setF {α : Type} : Nat → Tr α → Nat → Option α → Tr α
  | 0, t, _, _ => t
  | _ + 1, .nil, 0, a => .node a .nil .nil
  | f + 1, .nil, i + 1, a => cnd (Nat.beq (i % 2) 0) (.node none (setF f .nil (i / 2) a) .nil) <| .node none .nil (setF f .nil (i / 2) a)
  | _ + 1, .node _ l r, 0, a => .node a l r
  | f + 1, .node v l r, i + 1, a => cnd (Nat.beq (i % 2) 0) (.node v (setF f l (i / 2) a) r) <| .node v l (setF f r (i / 2) a)
def forceN {β : Type} (n : Nat) (k : Nat → β) : β := k n
def forceI {β : Type} (n : Int) (k : Int → β) : β := k n
def assocN {α : Type} : List (Nat × α) → Nat → Option α
  | [], _ => none
  | p :: l, j => cnd (Nat.beq p.1 j) (some p.2) <| assocN l j
-/
--END
def Tr.set {α : Type} (t : Tr α) (i : Nat) (a : Option α) : Tr α := Tr.setF (i + 1) t i a
def Tr.ofList {α : Type} : List α → Nat → Tr α → Tr α
  | [], _, t => t
  | a :: l, i, t => forceTr (t.set i (some a)) fun t' => ofList l (i + 1) t'
def Tr.getN {α : Type} (t : Tr α) : Nat → Nat → Option (List α)
  | _, 0 => some []
  | o, n + 1 => match t.get o with
    | none => none
    | some a => match getN t (o + 1) n with
      | none => none
      | some l => some (a :: l)

def nth {α : Type} (l : List α) : Nat → Option α :=
  List.rec (motive := fun _ => Nat → Option α) (fun _ => none) (fun a _ ih i => Nat.rec (motive := fun _ => Option α) (some a) (fun j _ => ih j) i) l
inductive AV where
  | bool (b : Bool)
  | int (k : IntKind) (n : Int)
  | str (s : List Nat)
  | ptr (b o : Nat)
  | nilptr
  | slice (b o len cap : Nat)
  | sliceU (b o len sz : Nat)
  | nilslice
  | map (m : Nat)
  | nilmap
  | func (fn : Fn) (first captured : List AV)
  | nilFunc
  | iface (t : Nat) (v : AV)
  | nilIface
  | agg (cs : List AV)
  | tuple (vs : List AV)
  deriving Inhabited

def AV.cells : AV → List AV
  | .agg cs => cs
  | v => [v]

def undef : AV := .tuple []

def mapOpt {α β : Type} (f : α → Option β) : List α → Option (List β)
  | [] => some []
  | a :: l => match f a with
    | none => none
    | some b => match mapOpt f l with
      | none => none
      | some r => some (b :: r)
def ofVn : Nat → Value → Option AV
  | 0, _ => none
  | n + 1, v => match v with
    | .bool b => some (.bool b)
    | .int k n => some (.int k n)
    | .string s => some (.str (s.data.toList.map (·.toNat)))
    | .pointer none => some .nilptr
    | .slice none 0 0 => some .nilslice
    | .map none => some .nilmap
    | .func (.func f) ⟨[]⟩ ⟨[]⟩ => some (.func (.func f) [] [])
    | .nilFunc => some .nilFunc
    | .iface t v => match ofVn n v with | some a => some (.iface t a) | none => none
    | .nilIface => some .nilIface
    | .agg cs => match mapOpt (ofVn n) cs.toList with | some l => some (.agg l) | none => none
    | .tuple cs => match mapOpt (ofVn n) cs.toList with | some l => some (.tuple l) | none => none
    | _ => none
def ofV (v : Value) : Option AV := ofVn 20 v

inductive ATarget where
  | fn (fn : Fn) (captured : List AV)
  | collected (r : Nat)
structure ADef where
  target : ATarget
  args : List AV

/-- own: nobody else holds it, its size known; marked: likewise, the model's mark stands behind it (bytes of a string); grow: likewise, more room behind it than is known; stale: an elder version of what grows. -/
structure Ols where
  l : List Nat
  /-- the row's element type -/
  ty : Nat
  deriving Inhabited
/-- typed: as own, its type known -/
inductive St where
  | own | marked | grow (olds : Ols) | stale | typed (t : Nat)
  deriving Inhabited

inductive AObj where
  | cells (c : Tr AV) (size : Nat) (st : St)
  | map (es : List (AV × AV × Nat)) (clock : Nat)
  | look (es : List (AV × AV))
  | sit (s : List Nat) (pos : Nat)
  | mit (m : Option Nat) (since : Nat) (seen : List Nat) (stepped : Nat)
  | mitN (m since n : Nat) (bs : List Nat) (st : Nat) (cur : Option Nat)
  | loop (state : LoopState) (pending : Option Code) (fn : Nat) (n lv : Nat) (T : Tr AV) (params : List Nat) (assign body : Code) (defers : Nat)
  | deferred (calls : Option (List ADef))

/-- what stays the same in a run: the program, the package-level variables' blocks (numbers below n0), calls known already -/
structure Cfg where
  P : Program
  G : Tr AObj
  n0 : Nat
  orc : Nat → List AV → Option AV
  /-- how many of them are package-level variables -/
  ng : Nat

/-- the heap as it goes: the dynamic blocks, the next number -/
structure AH where
  S : Tr AObj
  nx : Nat

def hget (C : Cfg) (S : Tr AObj) (b : Nat) : Option AObj :=
  cnd (Nat.blt b C.n0) (C.G.get b) (S.get (Nat.sub b C.n0))
def hset (C : Cfg) (S : Tr AObj) (b : Nat) (o : Option AObj) : Tr AObj := S.set (Nat.sub b C.n0) o
/-- may it be written? -/
def dyn (C : Cfg) (b : Nat) : Bool := Nat.ble C.n0 b

structure APanic where
  v : AV
  recovered : Bool
inductive AMode where
  | run | returning | panicking (chain : List APanic)

/-- an operand, its source known: an operation of the region, a temporary from before it, a value -/
inductive CX where
  | v (j : Nat)
  | t (n : Nat)
  | c (a : AV)
inductive COp where
  | mov (x : CX)
  | pick (c a b : CX)
  | ld1 (a : CX)
  | ldN (n : Nat) (a : CX)
  | off (d : Nat) (x : CX)
  | ixA (n sz : Nat) (x i : CX)
  | ixS (sz : Nat) (x i : CX)
  | nilck (x : CX)
  | ib (op : BinOp) (x y : CX)
  | ext (i : Nat) (x : CX)
  | st (n : Nat) (a v : CX)
  | call (f : Nat) (args : List CX)
  | light (srcs : List (Nat × Nat)) (o : Op)
  | make (srcs : List (Nat × Nat)) (o : Op)
  | heavy (srcs : List (Nat × Nat)) (o : Op)
structure CI where
  i : Nat
  g : Option (Nat × Bool)
  op : COp
structure Stage where
  lights : List CI
  re : List CI
  heavy : Option CI

inductive AItem where
  | code (c : Code)
  | inBlock (id : Nat)
  | inLoop (body : Code)
  | inScope (body : Code)
  | seqr (ops : Array Oper) (V : List (Nat × AV)) (rest : List CI) (fin : List (Nat × Nat))
  | drawn (ops : Array Oper) (base : Nat) (V : List (Nat × AV)) (stages : List Stage) (fin : List (Nat × Nat))
  | waitS (ops : Array Oper) (V : List (Nat × AV)) (h : Nat) (rest : List CI) (fin : List (Nat × Nat))
  | waitD (ops : Array Oper) (base : Nat) (V : List (Nat × AV)) (h : Nat) (stages : List Stage) (fin : List (Nat × Nat))
  | inRangeFunc (l : Nat)
  | endRangeFunc (l : Nat)
  | beginRound

structure AFrame where
  fn : Nat
  n : Nat
  lv : Nat
  T : Tr AV
  todo : List AItem
  defers : List ADef
  mode : AMode
  deferred : Bool
  roundOf : Option Nat

structure AM where
  fr : AFrame
  cs : List AFrame
  S : Tr AObj
  nx : Nat

section ops
variable (C : Cfg)

def szOf (t : Nat) : Option Nat := match C.P.info? t with | some i => some i.size | none => none
def zeroOf (t : Nat) : Option AV := match C.P.info? t with | some i => (match i.zero with | some v => ofV v | none => none) | none => none
def isAggT (t : Nat) : Option Bool := match C.P.underlying t with
  | some (.struct _) => some true | some (.array _ _) => some true | some _ => some false | none => none

def setMany : List AV → Nat → List AV → List AV
  | cs, _, [] => cs
  | cs, o, v :: l => setMany (cs.set o v) (o + 1) l
def fillL (place : Nat → Option (Nat × Nat)) : List AV → List (Nat × AV) → Option (List AV)
  | cells, [] => some cells
  | cells, (i, v) :: rest => match place i with
    | none => none
    | some (off, size) =>
      cnd (Nat.beq v.cells.length size && Nat.ble (off + size) cells.length) (fillL place (setMany cells off v.cells) rest) <| none
def repl : Nat → List AV → List AV
  | 0, _ => []
  | n + 1, z => z ++ repl n z
def evalParts (ρ : Operand → Option AV) : List (Nat × Operand) → Option (List (Nat × AV))
  | [] => some []
  | (i, x) :: l => match ρ x, evalParts ρ l with | some v, some r => some ((i, v) :: r) | _, _ => none
def evalAll (ρ : Operand → Option AV) : List Operand → Option (List AV)
  | [] => some []
  | x :: l => match ρ x, evalAll ρ l with | some v, some r => some (v :: r) | _, _ => none

def structPlace (fields : List Field) (i : Nat) : Option (Nat × Nat) :=
  match nth fields i with
  | some f => (match szOf C f.type with | some s => some (f.offset, s) | none => none)
  | none => none

def okFields : List Field → Bool
  | [] => true
  | f :: l => (match szOf C f.type with | some _ => true | none => false) && okFields l
def aBuild (t : Nat) (parts : List (Nat × AV)) : Option AV :=
  match zeroOf C t with
  | none => none
  | some z => match C.P.underlying t with
    | some (.struct fields) => cnd (okFields C fields.toList) (match fillL (structPlace C fields.toList) z.cells parts with | some cs => some (.agg cs) | none => none) none
    | some (.array _ elem) => (match szOf C elem with
      | some s => (match fillL (fun i => some (i * s, s)) z.cells parts with | some cs => some (.agg cs) | none => none)
      | none => none)
    | _ => none

def aPart (t : Nat) (cs : List AV) (off : Nat) : Option AV :=
  match isAggT C t, szOf C t with
  | some true, some s => some (.agg ((cs.drop off).take s))
  | some false, _ => nth cs off
  | _, _ => none

def natsEq : List Nat → List Nat → Bool
  | [], [] => true
  | a :: x, b :: y => Nat.beq a b && natsEq x y
  | _, _ => false
def natsLt : List Nat → List Nat → Bool
  | _, [] => false
  | [], _ :: _ => true
  | a :: x, b :: y => Nat.blt a b || (Nat.beq a b && natsLt x y)

/-- a block that nobody else holds, and a place in it -/
def ownAt (S : Tr AObj) (b o : Nat) : Bool := match hget C S b with
  | some (.cells _ n .own) => dyn C b && Nat.blt o n
  | _ => false
def liveAt (S : Tr AObj) (b o : Nat) : Bool := match hget C S b with
  | some (.cells _ _ .stale) => false
  | some (.cells _ n _) => Nat.blt o n
  | _ => false
def ptrEq (S : Tr AObj) (b o b' o' : Nat) : Option Bool :=
  cnd (Nat.beq b b') (some (Nat.beq o o')) (cnd (ownAt C S b o && liveAt C S b' o' || ownAt C S b' o' && liveAt C S b o) (some false) none)
def aEqFields (eq : Nat → AV → AV → Option Bool) : List Field → List AV → List AV → Option Bool
  | [], _, _ => some true
  | f :: fs, xs, ys =>
    cnd (f.name == "_") none <|
    match aPart C f.type xs f.offset, aPart C f.type ys f.offset with
    | some a, some b => (match eq f.type a b with
      | some true => aEqFields eq fs xs ys
      | some false => some false
      | none => none)
    | _, _ => none
def aEqItems (eq : Nat → AV → AV → Option Bool) (e s : Nat) (xs ys : List AV) : Nat → Nat → Option Bool
  | _, 0 => some true
  | i, n + 1 => match aPart C e xs (i * s), aPart C e ys (i * s) with
    | some a, some b => (match eq e a b with
      | some true => aEqItems eq e s xs ys (i + 1) n
      | some false => some false
      | none => none)
    | _, _ => none
def kindEq (k k' : IntKind) : Bool := match k, k' with
  | .i8, .i8 => true | .i16, .i16 => true | .i32, .i32 => true | .i64, .i64 => true
  | .u8, .u8 => true | .u16, .u16 => true | .u32, .u32 => true | .u64, .u64 => true
  | _, _ => false
def boolEq (a b : Bool) : Bool := match a, b with | true, true => true | false, false => true | _, _ => false
def intEq (x y : Int) : Bool := match x, y with
  | .ofNat a, .ofNat b => Nat.beq a b
  | .negSucc a, .negSucc b => Nat.beq a b
  | _, _ => false
def intLt (x y : Int) : Bool := match x, y with
  | .ofNat a, .ofNat b => Nat.blt a b
  | .negSucc a, .negSucc b => Nat.blt b a
  | .negSucc _, .ofNat _ => true
  | .ofNat _, .negSucc _ => false

def aEq (S : Tr AObj) : Nat → Nat → AV → AV → Option Bool
  | 0, _, _, _ => none
  | d + 1, t, x, y =>
    match C.P.underlying t, x, y with
    | some .bool, .bool a, .bool b => some (boolEq a b)
    | some (.int _), .int k a, .int k' b => cnd (kindEq k k') (some (intEq a b)) none
    | some .string, .str a, .str b => some (natsEq a b)
    | some (.pointer _), .nilptr, .nilptr => some true
    | some (.pointer _), .nilptr, .ptr _ _ => some false
    | some (.pointer _), .ptr _ _, .nilptr => some false
    | some (.pointer e), .ptr b o, .ptr b' o' =>
      (match szOf C e with
       | some s => cnd (Nat.beq s 0) none (ptrEq C S b o b' o')
       | none => none)
    | some (.interface _), .nilIface, .nilIface => some true
    | some (.interface _), .nilIface, .iface _ _ => some false
    | some (.interface _), .iface _ _, .nilIface => some false
    | some (.interface _), .iface tx vx, .iface ty vy => cnd (Nat.beq tx ty) (match C.P.info? tx with
      | some i => cnd i.comparable (aEq S d tx vx vy) none
      | none => none) (some false)
    | some (.slice _), .nilslice, .nilslice => some true
    | some (.slice _), .nilslice, .slice .. => some false
    | some (.slice _), .nilslice, .sliceU .. => some false
    | some (.slice _), .slice .., .nilslice => some false
    | some (.slice _), .sliceU .., .nilslice => some false
    | some (.map _ _), .nilmap, .nilmap => some true
    | some (.map _ _), .nilmap, .map _ => some false
    | some (.map _ _), .map _, .nilmap => some false
    | some (.func _ _ _), .nilFunc, .nilFunc => some true
    | some (.func _ _ _), .nilFunc, .func .. => some false
    | some (.func _ _ _), .func .., .nilFunc => some false
    | some (.struct fields), .agg xs, .agg ys => cnd (C.P.stoodInHeld t) none (aEqFields C (aEq S d) fields.toList xs ys)
    | some (.array n e), .agg xs, .agg ys => (match szOf C e with | some s => aEqItems C (aEq S d) e s xs ys 0 n | none => none)
    | _, _, _ => none

def wrapF (k : IntKind) (n : Int) : Int :=
  match k with
  | .i64 => (fun m : Int => cnd (decide (m < 9223372036854775808)) m (m - 18446744073709551616)) (n % 18446744073709551616)
  | .u64 => n % 18446744073709551616
  | .u8 => n % 256
  | k => k.wrap n
def intR (k : IntKind) (n : Int) : Option AV := forceI n fun n => some (.int k n)
def intW (k : IntKind) (n : Int) : Option AV := forceI (wrapF k n) fun n => some (.int k n)
def boolR (b : Bool) : Option AV := cnd b (some (.bool true)) (some (.bool false))
def aInt (op : BinOp) : IntKind → Int → Int → Option AV :=
  match op with
  | .add => fun k x y => intW k (x + y)
  | .sub => fun k x y => intW k (x - y)
  | .mul => fun k x y => intW k (x * y)
  | .quo => fun k x y => cnd (intEq y 0) none (intW k (x.tdiv y))
  | .rem => fun k x y => cnd (intEq y 0) none (intR k (x.tmod y))
  | .and => fun k x y => intW k ((BitVec.ofInt k.bits x &&& BitVec.ofInt k.bits y).toNat)
  | .or => fun k x y => intW k ((BitVec.ofInt k.bits x ||| BitVec.ofInt k.bits y).toNat)
  | .xor => fun k x y => intW k ((BitVec.ofInt k.bits x ^^^ BitVec.ofInt k.bits y).toNat)
  | .andNot => fun k x y => intW k ((BitVec.ofInt k.bits x &&& ~~~ BitVec.ofInt k.bits y).toNat)
  | .eql => fun _ x y => boolR (intEq x y)
  | .neq => fun _ x y => boolR (!intEq x y)
  | .lss => fun _ x y => boolR (intLt x y)
  | .leq => fun _ x y => boolR (!intLt y x)
  | .gtr => fun _ x y => boolR (intLt y x)
  | .geq => fun _ x y => boolR (!intLt x y)
  | _ => fun _ _ _ => none
def aShift (op : BinOp) (k : IntKind) (x y : Int) : Option AV :=
  cnd (intLt y 0) none
  (match op with
  | .shl => intW k (x * 2 ^ (min y.toNat k.bits))
  | .shr => intR k (x.fdiv (2 ^ (min y.toNat k.bits)))
  | _ => none)
def isShift (op : BinOp) : Bool := match op with | .shl | .shr => true | _ => false
def aStr (op : BinOp) (x y : List Nat) : Option AV :=
  match op with
  | .add => cnd (Nat.ble (x.length + y.length) 1000000000) (some (.str (x ++ y))) <| none
  | .eql => boolR (natsEq x y)
  | .neq => boolR (!natsEq x y)
  | .lss => boolR (natsLt x y)
  | .leq => boolR (natsLt x y || natsEq x y)
  | .gtr => boolR (!(natsLt x y || natsEq x y))
  | .geq => boolR (!natsLt x y)
  | _ => none
def aIBin (op : BinOp) (x y : AV) : Option AV :=
  match x, y with
  | .int k a, .int k' b => cnd (isShift op) (aShift op k a b) (cnd (kindEq k k') (aInt op k a b) none)
  | _, _ => none
/-- what the model asks before it compares two values: x and y: is an operand a constant? -/
def eqOk (t : Nat) (cx : Bool) (x y : AV) : Bool := match x, y with
  | .nilIface, .nilIface => cx || (match C.P.underlying t with | some (.interface ms) => ms.isEmpty | _ => false)
  | .agg _, .agg _ => !C.P.eqGuardType C.P.depth t
  | _, _ => true
def aBin (S : Tr AObj) (op : BinOp) (t : Nat) (cx : Bool) (x y : AV) : Option AV :=
  match x, y with
  | .int k a, .int k' b => aIBin op (.int k a) (.int k' b)
  | .str a, .str b => aStr op a b
  | x, y => cnd (eqOk C t cx x y) (match op with
    | .eql => (match aEq C S 50 t x y with | some b => boolR b | none => none)
    | .neq => (match aEq C S 50 t x y with | some b => boolR (!b) | none => none)
    | _ => none) none

def aUn (op : UnOp) (x : AV) : Option AV :=
  match op, x with
  | .neg, .int k n => aInt .sub k 0 n
  | .xor, .int k n => aInt .xor k (if k.signed then -1 else k.max) n
  | .not, .bool b => boolR (!b)
  | _, _ => none

def aConv (src dst : Nat) (x : AV) : Option AV :=
  match C.P.underlying src, C.P.underlying dst, x with
  | some _, some (.int k), .int _ n => intW k n
  | some _, some .string, .str s => some (.str s)
  | _, _, _ => none

def natOf (v : AV) : Option Nat := match v with | .int _ n => (match n with | .ofNat n => some n | _ => none) | _ => none

def leO (o : Option AV) (m d : Nat) : Option Nat := match o with
  | some v => (match natOf v with | some n => cnd (Nat.ble n m) (some n) <| none | none => none)
  | none => some d
def aBounds (len cap : Nat) (lo hi mx : Option AV) : Option (Nat × Nat × Nat) :=
  match leO mx cap cap with
  | none => none
  | some m => match (match hi, mx with
      | none, some _ => none
      | hi, _ => leO hi m len) with
    | none => none
    | some h => match leO lo h 0 with
      | none => none
      | some l => some (l, h, m)

def optEval (ρ : Operand → Option AV) : Option Operand → Option (Option AV)
  | none => some none
  | some x => match ρ x with | some v => some (some v) | none => none

def sizeAt (S : Tr AObj) (b : Nat) : Option Nat := match hget C S b with | some (.cells _ n (.grow _)) => some n | some (.cells _ n .stale) => some n | _ => none

def aSlice (S : Tr AObj) (t : Nat) (x : AV) (lo hi mx : Option AV) : Option AV :=
  match C.P.underlying t, x with
  | some .string, .str s => (match mx with
    | some _ => none
    | none => (match aBounds s.length s.length lo hi none with
      | some (l, h, _) => some (.str ((s.drop l).take (h - l)))
      | none => none))
  | some (.slice elem), .slice b o len cap => (match aBounds len cap lo hi mx, szOf C elem with
    | some (l, h, m), some sz => some (.slice b (cnd (Nat.beq m l) (o) <| o + l * sz) (h - l) (m - l))
    | _, _ => none)
  | some (.slice elem), .nilslice => (match aBounds 0 0 lo hi mx, szOf C elem with
    | some _, some _ => some .nilslice
    | _, _ => none)
  | some (.slice elem), .sliceU b o len sz => (match szOf C elem, sizeAt C S b with
    | some sz', some n => cnd (Nat.beq sz sz' && Nat.blt 0 sz) ((match aBounds len ((n - o) / sz) lo hi mx with
         | some (l, h, m) => (match mx with
           | some _ => some (.slice b (cnd (Nat.beq m l) (o) <| o + l * sz) (h - l) (m - l))
           | none => cnd (Nat.blt l ((n - o) / sz) || Nat.beq l 0) (some (.sliceU b (o + l * sz) (h - l) sz)) <| none)
         | none => none)) <| none
    | _, _ => none)
  | some (.array n elem), .ptr b o => (match aBounds n n lo hi mx, szOf C elem with
    | some (l, h, m), some sz => some (.slice b (cnd (Nat.beq m l) (o) <| o + l * sz) (h - l) (m - l))
    | _, _ => none)
  | _, _ => none

def aIndex (t : Nat) (x i : AV) : Option AV :=
  match natOf i with
  | none => none
  | some i => match C.P.underlying t, x with
    | some (.array n elem), .agg cs => (match szOf C elem with | some sz => cnd (Nat.blt i n) (aPart C elem cs (i * sz)) <| none | none => none)
    | some .string, .str s => (match nth s i with | some c => some (.int .u8 (Int.ofNat c)) | none => none)
    | _, _ => none

/-- the cells of a block, or of one that is only made in this region -/
def cellsOf (S : Tr AObj) (b : Nat) : Option (Tr AV) := match hget C S b with
  | some (.cells c _ _) => some c
  | _ => none
def aLd1 (S : Tr AObj) (a : AV) : Option AV :=
  match a with
  | .ptr b o => (match cellsOf C S b with
    | some c => c.get o
    | none => none)
  | _ => none
def aLdN (S : Tr AObj) (n : Nat) (a : AV) : Option AV :=
  match a with
  | .ptr b o => (match cellsOf C S b with
    | some c => (match c.getN o n with | some l => some (.agg l) | none => none)
    | none => none)
  | _ => none
def aLoad (S : Tr AObj) (t : Nat) (a : AV) : Option AV :=
  match isAggT C t, szOf C t with
  | some true, some s => aLdN C S s a
  | some false, _ => aLd1 C S a
  | _, _ => none

def aKeyItems (ok : Nat → AV → Bool) (e s : Nat) (cs : List AV) : Nat → Nat → Bool
  | _, 0 => true
  | i, n + 1 => (match aPart C e cs (i * s) with | some p => ok e p | none => false) && aKeyItems ok e s cs (i + 1) n
/-- a key that a map takes -/
def aKeyOk : Nat → Nat → AV → Bool
  | 0, _, _ => false
  | n + 1, t, v => match C.P.underlying t, v with
    | some (.interface _), .iface d x => (match C.P.info? d with | some i => i.comparable && aKeyOk n d x | none => false)
    | some (.interface _), .nilIface => true
    | some (.interface _), _ => false
    | some (.struct fields), .agg cs => fields.toList.all fun f => f.name == "_" || (match aPart C f.type cs f.offset with | some p => aKeyOk n f.type p | none => false)
    | some (.struct _), _ => false
    | some (.array m e), .agg cs => (match szOf C e with | some s => aKeyItems C (aKeyOk n) e s cs 0 m | none => false)
    | some (.array _ _), _ => false
    | some _, _ => true
    | none, _ => false
/-- two keys alike to the bit -/
def keySame : Nat → AV → AV → Bool
  | 0, _, _ => false
  | n + 1, x, y => match x, y with
    | .bool a, .bool b => boolEq a b
    | .int k a, .int k' b => kindEq k k' && intEq a b
    | .str a, .str b => natsEq a b
    | .ptr b o, .ptr b' o' => Nat.beq b b' && Nat.beq o o'
    | .nilptr, .nilptr => true
    | .nilIface, .nilIface => true
    | .iface t v, .iface t' v' => Nat.beq t t' && keySame n v v'
    | .agg a, .agg b => keysSame n a b
    | _, _ => false
  where
  keysSame (n : Nat) : List AV → List AV → Bool
  | [], [] => true
  | x :: a, y :: b => keySame n x y && keysSame n a b
  | _, _ => false
def findKey (S : Tr AObj) (t : Nat) (k : AV) : List (AV × AV × Nat) → Nat → Option (Option (Nat × AV))
  | [], _ => some none
  | (k', v, _) :: es, i => match aEq C S 20 t k k' with
    | some true => some (some (i, v))
    | some false => findKey S t k es (i + 1)
    | none => none
/-- a map whose order is not known: looked into only -/
def lookP (S : Tr AObj) (t : Nat) (k : AV) : List (AV × AV) → Option (Option AV)
  | [] => some none
  | (k', v) :: es => match lookP S t k es, aEq C S 20 t k k' with
    | some r, some false => some r
    | some none, some true => some (some v)
    | _, _ => none
def lookR (r : Option (Option AV)) : Option (Option (Nat × AV)) := match r with
  | some (some v) => some (some (0, v))
  | some none => some none
  | none => none
def aLookup (S : Tr AObj) (t : Nat) (m k : AV) (ok : Bool) : Option AV :=
  match C.P.underlying t with
  | some (.map kt et) =>
    (match (match m with
      | .nilmap => cnd (aKeyOk C 20 kt k) (some none) none
      | .map r => (match hget C S r with | some (.map es _) => cnd (aKeyOk C 20 kt k) (findKey C S kt k es 0) none | some (.look es) => cnd (aKeyOk C 20 kt k) (lookR (lookP C S kt k es)) none | _ => none)
      | _ => none) with
    | none => none
    | some none => (match zeroOf C et with | some z => some (cnd (ok) (.tuple [z, .bool false]) <| z) | none => none)
    | some (some (_, v)) => some (cnd (ok) (.tuple [v, .bool true]) <| v))
  | _ => none

def aLen (S : Tr AObj) (t : Nat) (x : AV) : Option AV :=
  match C.P.underlying t, x with
  | some .string, .str s => intR .i64 (Int.ofNat s.length)
  | some (.array n _), _ => some (.int .i64 (Int.ofNat n))
  | some (.pointer arr), _ => (match C.P.underlying arr with | some (.array n _) => some (.int .i64 (Int.ofNat n)) | _ => none)
  | some (.slice _), .slice _ _ n _ => intR .i64 (Int.ofNat n)
  | some (.slice _), .sliceU _ _ n _ => intR .i64 (Int.ofNat n)
  | some (.slice _), .nilslice => some (.int .i64 0)
  | some (.map _ _), .nilmap => some (.int .i64 0)
  | some (.map _ _), .map r => (match hget C S r with | some (.map es _) => intR .i64 (Int.ofNat es.length) | _ => none)
  | _, _ => none
def aCap (t : Nat) (x : AV) : Option AV :=
  match C.P.underlying t, x with
  | some (.slice _), .slice _ _ _ n => intR .i64 (Int.ofNat n)
  | some (.slice _), .nilslice => some (.int .i64 0)
  | _, _ => none

def aMM (mx : Bool) : AV → List AV → Option AV
  | v, [] => some v
  | .int k x, .int _ y :: l => aMM mx (.int k (cnd (mx) ((cnd (intLt x y) (y) <| x)) <| (cnd (intLt y x) (y) <| x))) l
  | _, _ => none

def bytesOfCells : List AV → Option (List Nat)
  | [] => some []
  | .int .u8 (.ofNat n) :: l => (match bytesOfCells l with | some r => some (n % 256 :: r) | none => none)
  | _ => none
def cellsAt (S : Tr AObj) (b o n : Nat) : Option (List AV) :=
  match cellsOf C S b with
  | some c => c.getN o n
  | none => cnd (Nat.beq n 0) (some []) none
def aToStr (S : Tr AObj) (x : AV) : Option AV :=
  match x with
  | .nilslice => some (.str [])
  | .slice b o len _ => (match cellsAt C S b o len with | some l => (match bytesOfCells l with | some s => some (.str s) | none => none) | none => none)
  | .sliceU b o len _ => (match cellsAt C S b o len with | some l => (match bytesOfCells l with | some s => some (.str s) | none => none) | none => none)
  | _ => none

def lBuild (t : Nat) (parts : Array (Nat × Operand)) (_ : Tr AObj) (ρ : Operand → Option AV) : Option AV :=
  match evalParts ρ parts.toList with | some ps => aBuild C t ps | none => none
def isConstO (o : Operand) : Bool := match o with | .const _ => true | _ => false
def lBin (op : BinOp) (t : Nat) (x y : Operand) (S : Tr AObj) (ρ : Operand → Option AV) : Option AV :=
  match ρ x, ρ y with | some a, some b => aBin C S op t (isConstO x || isConstO y) a b | _, _ => none
def lUn (op : UnOp) (x : Operand) (_ : Tr AObj) (ρ : Operand → Option AV) : Option AV :=
  match ρ x with | some a => aUn op a | none => none
/-- a pointer as an address of no type, and back -/
def ptrConv (S : Tr AObj) (s d : Nat) (a : AV) : Option AV := match a with
  | .ptr b o => (match hget C S b with
    | some (.cells _ n (.typed t)) => (match C.P.underlying s, C.P.underlying d with
      | some (.pointer e), some .unsafePointer => (match szOf C e with | some z => cnd (Nat.blt 0 z && Nat.blt o n) (some (.ptr b o)) none | none => none)
      | some .unsafePointer, some (.pointer u) => (match szOf C u with | some z => cnd (Nat.beq o 0 && Nat.beq t u && (Nat.blt 0 z && Nat.ble z n)) (some (.ptr b o)) none | none => none)
      | _, _ => none)
    | _ => none)
  | _ => none
def lConv (s d : Nat) (x : Operand) (S : Tr AObj) (ρ : Operand → Option AV) : Option AV :=
  match ρ x with
  | some a => (match aConv C s d a with
    | some v => some v
    | none => (match C.P.underlying s, C.P.underlying d with
      | some (.slice e), some .string => (match C.P.underlying e with | some (.int .u8) => aToStr C S a | _ => none)
      | _, _ => ptrConv C S s d a))
  | none => none
def lIface (t : Nat) (x : Operand) (_ : Tr AObj) (ρ : Operand → Option AV) : Option AV :=
  match C.P.underlying t, ρ x with
  | some (.interface _), _ => none
  | some _, some v => some (.iface t v)
  | _, _ => none
def lFunc (fn : Fn) (first captured : Array Operand) (_ : Tr AObj) (ρ : Operand → Option AV) : Option AV :=
  match evalAll ρ first.toList, evalAll ρ captured.toList with
  | some a, some b => (match fn with | .func f => some (.func (.func f) a b) | _ => none)
  | _, _ => none
def lSlice (t : Nat) (x : Operand) (lo hi mx : Option Operand) (S : Tr AObj) (ρ : Operand → Option AV) : Option AV :=
  match ρ x, optEval ρ lo, optEval ρ hi, optEval ρ mx with
  | some v, some l, some h, some m => aSlice C S t v l h m
  | _, _, _, _ => none
def lField (t : Nat) (x : Operand) (f : Nat) (_ : Tr AObj) (ρ : Operand → Option AV) : Option AV :=
  match C.P.underlying t, ρ x with
  | some (.struct fields), some (.agg cs) => (match nth fields.toList f with
    | some fd => aPart C fd.type cs fd.offset
    | none => none)
  | _, _ => none
def lIndex (t : Nat) (x i : Operand) (_ : Tr AObj) (ρ : Operand → Option AV) : Option AV :=
  match ρ x, ρ i with | some a, some b => aIndex C t a b | _, _ => none
def lLookup (t : Nat) (m k : Operand) (ok : Bool) (S : Tr AObj) (ρ : Operand → Option AV) : Option AV :=
  match ρ m, ρ k with | some a, some b => aLookup C S t a b ok | _, _ => none
def lAssert (x : Operand) (asserted : Nat) (ok : Bool) (_ : Tr AObj) (ρ : Operand → Option AV) : Option AV :=
  match C.P.underlying asserted, ρ x with
  | some (.interface _), _ => none
  | some _, some .nilIface => cnd (ok) ((match zeroOf C asserted with | some z => some (.tuple [z, .bool false]) | none => none)) <| none
  | some _, some (.iface t v) => cnd (Nat.beq t asserted) (some (cnd (ok) (.tuple [v, .bool true]) <| v)) <| cnd (ok) ((match zeroOf C asserted with | some z => some (.tuple [z, .bool false]) | none => none)) <| none
  | _, _ => none
def lBuiltin (b : Builtin) (args : Array Operand) (ats : Array TypeId) (S : Tr AObj) (ρ : Operand → Option AV) : Option AV :=
  match b, evalAll ρ args.toList with
  | .len, some [x] => (match ats.toList with | t :: _ => aLen C S t x | _ => none)
  | .cap, some [x] => (match ats.toList with | t :: _ => aCap C t x | _ => none)
  | .max, some (x :: l) => aMM true x l
  | .min, some (x :: l) => aMM false x l
  | _, _ => none
def lCall (c : Call) (S : Tr AObj) (ρ : Operand → Option AV) : Option AV :=
  match c with
  | ⟨.builtin b, args, ats⟩ => lBuiltin C b args ats S ρ
  | _ => none

def lastN : List Nat → Option Nat
  | [] => none
  | a :: l => match l with | [] => some a | _ => lastN l
def findBorn (b : Nat) : List (AV × AV × Nat) → Option (AV × AV × Nat)
  | [] => none
  | e :: es => cnd (Nat.beq e.2.2 b) (some e) (findBorn b es)
def lEntry (it : Operand) (S : Tr AObj) (ρ : Operand → Option AV) : Option AV :=
  match ρ it with
  | some (.ptr r 0) => (match hget C S r with
    | some (.mit (some m) _ seen stepped) => (match lastN seen, hget C S m with
      | some stamp, some (.map es clock) => cnd (Nat.beq clock stepped) (match findBorn stamp es with
        | some (k, v, _) => some (.tuple [k, v])
        | none => none) none
      | _, _ => none)
    | some (.mitN m _ _ _ stepped cur) => (match cur, hget C S m with
      | some stamp, some (.map es clock) => cnd (Nat.beq clock stepped) (match findBorn stamp es with
        | some (k, v, _) => some (.tuple [k, v])
        | none => none) none
      | _, _ => none)
    | _ => none)
  | _ => none

/-- what only reads, the rarer kinds -/
def aLight (o : Op) : Cfg → Tr AObj → (Operand → Option AV) → Option AV :=
  match o with
  | .build t parts => fun C => lBuild C t parts
  | .binOp op t x y _ => fun C => lBin C op t x y
  | .unOp op _ x => fun _ => lUn op x
  | .convert s d x => fun C => lConv C s d x
  | .makeInterface t x => fun C => lIface C t x
  | .makeFunc fn first captured => fun _ => lFunc fn first captured
  | .slice t x lo hi mx => fun C => lSlice C t x lo hi mx
  | .field t x f => fun C => lField C t x f
  | .index t x i => fun C => lIndex C t x i
  | .lookup t m k ok => fun C => lLookup C t m k ok
  | .typeAssert x _ asserted ok => fun C => lAssert C x asserted ok
  | .entry it => fun C => lEntry C it
  | .call c => fun C => lCall C c
  | _ => fun _ _ _ => none

def sensitive (c : COp) : Bool := match c with
  | .ld1 _ | .ldN _ _ => true
  | .light _ o => (match o with
    | .lookup .. | .convert .. | .slice .. | .call _ | .binOp .. | .entry _ => true
    | _ => false)
  | _ => false

/-- what only makes: the value that leads to the new block, the block's content -/

def selfT (t : Nat) : Bool := match C.P.underlying t with
  | some (.struct fields) => (match fields.toList with
    | f :: _ :: l => (match l with | [] => (match C.P.underlying f.type with | some (.pointer u) => Nat.beq u t | _ => false) | _ => false)
    | _ => false)
  | _ => false
def mAlloc (t : Nat) (_ : Operand → Option AV) (b : Nat) : Option (AV × AObj) :=
  match zeroOf C t with | some z => some (.ptr b 0, .cells (Tr.ofList z.cells 0 .nil) z.cells.length (cnd (selfT C t) (.typed t) .own)) | none => none
def mBox (x : Operand) (ρ : Operand → Option AV) (b : Nat) : Option (AV × AObj) :=
  match ρ x with | some v => some (.ptr b 0, .cells (Tr.ofList v.cells 0 .nil) v.cells.length .own) | none => none
def mSlice (t len : Nat) (parts : Array (Nat × Operand)) (ρ : Operand → Option AV) (b : Nat) : Option (AV × AObj) :=
  match C.P.underlying t, evalParts ρ parts.toList with
  | some (.slice elem), some ps => (match szOf C elem, zeroOf C elem with
    | some s, some z => cnd (Nat.ble (len * s) 16777216 && Nat.beq z.cells.length s) ((match fillL (fun i => some (i * s, s)) (repl len z.cells) ps with
         | some cs => some (.slice b 0 len len, .cells (Tr.ofList cs 0 .nil) cs.length .own)
         | none => none)) <| none
    | _, _ => none)
  | _, _ => none
def aMake (o : Op) : Cfg → (Operand → Option AV) → Nat → Option (AV × AObj) :=
  match o with
  | .alloc t => fun C => mAlloc C t
  | .box _ x => fun _ => mBox x
  | .buildSlice t len parts => fun C => mSlice C t len parts
  | .makeMap _ none => fun _ _ b => some (.map b, .map [] 0)
  | _ => fun _ _ _ => none

def killAll : List Nat → Tr AObj → Tr AObj
  | [], h => h
  | b :: l, h => killAll l (hset C h b none)
def writeN : Tr AV → Nat → List AV → Tr AV
  | c, _, [] => c
  | c, o, v :: l => forceTr (c.set o (some v)) fun c => writeN c (o + 1) l

def oneV (v : AV) : Bool := match v with | .agg _ => false | .tuple _ => false | _ => true
def ones : List AV → Bool
  | [] => true
  | v :: l => oneV v && ones l
/-- stores cells into a block that may be written -/
def aWrite (S : Tr AObj) (b o : Nat) (vs : List AV) : Option (Tr AObj) :=
  match hget C S b with
  | some (.cells c n st) => cnd (Nat.ble (o + vs.length) n && dyn C b && ones vs) ((match st with
       | .own => forceTr (writeN c o vs) fun c => forceTr (hset C S b (some (.cells c n .own))) fun S => some S
       | .marked => forceTr (writeN c o vs) fun c => forceTr (hset C S b (some (.cells c n .marked))) fun S => some S
       | .grow olds => forceTr (writeN c o vs) fun c => forceTr (hset C (killAll C olds.l S) b (some (.cells c n (.grow ⟨[], olds.ty⟩)))) fun S => some S
       | .typed t => forceTr (writeN c o vs) fun c => forceTr (hset C S b (some (.cells c n (.typed t)))) fun S => some S
       | _ => none)) <| none
  | _ => none

/-- what is appended or copied: how many, its cells -/
def srcCells (S : Tr AObj) (sz : Nat) (x : AV) : Option (Nat × List AV) :=
  match x with
  | .nilslice => some (0, [])
  | .slice b o len _ => (match cellsAt C S b o (len * sz) with | some l => some (len, l) | none => none)
  | .sliceU b o len _ => (match cellsAt C S b o (len * sz) with | some l => some (len, l) | none => none)
  | .str s => cnd (Nat.beq sz 1) (some (s.length, s.map fun n => AV.int .u8 (Int.ofNat n))) none
  | _ => none

inductive ARes where
  | val (v : AV)
  | vals (v : AV) (S : Tr AObj) (nx : Nat)
  | enter (f : Nat) (args : List AV)
  /-- a call that is known already -/
  | known (f : Nat) (args : List AV) (v : AV)
  | round (l : Nat) (args : List AV)
  | defer (d : ADef)
  | recover
  | panic (v : AV)
  /-- one of these, which one is open -/
  | fork (l : List (AV × Tr AObj))

/-- a new block under the next number -/
def newAt (C : Cfg) (S : Tr AObj) (nx : Nat) (o : AObj) (k : Nat → AV) : Option ARes :=
  forceN nx fun nx => forceTr (hset C S nx (some o)) fun S => some (.vals (k nx) S (nx + 1))
def growAt (S : Tr AObj) (nx e n sz : Nat) (l : List AV) : Option ARes :=
  cnd (Nat.ble n 1048576) (newAt C S nx (.cells (Tr.ofList l 0 .nil) l.length (.grow ⟨[], e⟩)) fun b => .sliceU b 0 n sz) <| none

def appendU (S : Tr AObj) (nx e : Nat) (b o len sz n : Nat) (l : List AV) : Option ARes :=
  match hget C S b with
  | some (.cells c size (.grow olds)) => cnd (dyn C b && Nat.beq olds.ty e)
    (cnd (Nat.ble (o + (len + n) * sz) size)
      (match aWrite C S b (o + len * sz) l with | some S' => some (.vals (.sliceU b o (len + n) sz) S' nx) | none => none)
      (cnd (Nat.ble (len + n) 1048576 && ones l) (cnd (Nat.beq (o + len * sz) size && Nat.beq o 0)
          (forceTr (writeN c size l) fun c' => newAt C (hset C S b (some (.cells c size .stale))) nx (.cells c' (size + l.length) (.grow ⟨b :: olds.l, e⟩)) fun b' => .sliceU b' 0 (len + n) sz)
          (match c.getN o (len * sz) with
          | some l0 => newAt C (hset C (killAll C olds.l S) b none) nx (.cells (Tr.ofList (l0 ++ l) 0 .nil) (l0 ++ l).length (.grow ⟨[], e⟩)) fun b' => .sliceU b' 0 (len + n) sz
          | none => none)) none)) none
  | _ => none

def appendL (S : Tr AObj) (nx e : Nat) (sz n : Nat) (l : List AV) (s : AV) : Option ARes :=
  match s with
  | .nilslice => growAt C S nx e n sz l
  | .slice b o len cap => cnd (Nat.ble (len + n) cap) ((match aWrite C S b (o + len * sz) l with | some S' => some (.vals (.slice b o (len + n) cap) S' nx) | none => none)) <| (match cellsAt C S b o (len * sz) with
       | some l0 => growAt C S nx e (len + n) sz (l0 ++ l)
       | none => none)
  | .sliceU b o len sz' => cnd (Nat.beq sz' sz) (appendU C S nx e b o len sz n l) <| none
  | _ => none
/-- nothing is appended: the slice as it was -/
def appendNone (S : Tr AObj) (sz : Nat) (s : AV) : Option ARes :=
  match s with
  | .nilslice => some (.val .nilslice)
  | .slice b o len cap => cnd (Nat.ble len cap) (some (.val (.slice b o len cap))) none
  | .sliceU b o len sz' => cnd (Nat.beq sz' sz) (match sizeAt C S b with
    | some n => cnd (Nat.ble (o + len * sz) n) (some (.val (.sliceU b o len sz'))) none
    | none => none) none
  | _ => none
/-- append of make([]T, n) -/
def aGrow (S : Tr AObj) (nx : Nat) (st : Nat) (s : AV) (n : Nat) : Option ARes :=
  match C.P.underlying st with
  | some (.slice elem) => (match C.P.info? elem, zeroOf C elem with
    | some i, some z => cnd (Nat.blt 0 i.size && Nat.ble i.bytes 65536 && Nat.beq z.cells.length i.size && Nat.ble n 1048576) (cnd (Nat.beq n 0) (appendNone C S i.size s) <| appendL C S nx elem i.size n (repl n z.cells) s) <| none
    | _, _ => none)
  | _ => none
/-- the element's zero value fills its cells -/
def zeroFits (i : TypeInfo) : Bool := match i.zero with | some z => Nat.beq z.cells.size i.size | none => false
def aAppend (S : Tr AObj) (nx : Nat) (st : Nat) (s x : AV) : Option ARes :=
  match C.P.underlying st with
  | some (.slice elem) => (match C.P.info? elem with
    | some i => (match srcCells C S i.size x with
      | some (n, l) => cnd (Nat.blt 0 i.size && Nat.ble i.bytes 65536 && zeroFits i) ((cnd (Nat.beq n 0) (appendNone C S i.size s) <| appendL C S nx elem i.size n l s)) <| none
      | none => none)
    | none => none)
  | _ => none

def copyTo (S : Tr AObj) (nx : Nat) (b o m : Nat) (l : List AV) : Option ARes :=
  cnd (Nat.beq m 0) (some (.val (.int .i64 0))) <| 
  (match aWrite C S b o l with | some S' => some (.vals (.int .i64 (Int.ofNat m)) S' nx) | none => none)
def aCopy (S : Tr AObj) (nx : Nat) (st : Nat) (d x : AV) : Option ARes :=
  match C.P.underlying st with
  | some (.slice elem) => (match szOf C elem with
    | some sz => (match srcCells C S sz x with
      | some (n, l) => (match d with
        | .nilslice => some (.val (.int .i64 0))
        | .slice b o len _ => copyTo C S nx b o (min n len) (l.take (min n len * sz))
        | .sliceU b o len _ => copyTo C S nx b o (min n len) (l.take (min n len * sz))
        | _ => none)
      | none => none)
    | none => none)
  | _ => none

/-- clear of a slice -/
def aClear (S : Tr AObj) (nx : Nat) (t : Nat) (x : AV) : Option ARes :=
  match C.P.underlying t with
  | some (.slice elem) => (match szOf C elem, zeroOf C elem with
    | some sz, some z => cnd (Nat.beq z.cells.length sz) (match x with
      | .nilslice => some (.val (.tuple []))
      | .slice b o len _ => cnd (Nat.beq len 0) (some (.val (.tuple []))) (match aWrite C S b o (repl len z.cells) with | some S => some (.vals (.tuple []) S nx) | none => none)
      | .sliceU b o len _ => cnd (Nat.beq len 0) (some (.val (.tuple []))) (match aWrite C S b o (repl len z.cells) with | some S => some (.vals (.tuple []) S nx) | none => none)
      | _ => none) none
    | _, _ => none)
  | _ => none
def setObj (S : Tr AObj) (nx : Nat) (r : Nat) (o : AObj) (v : AV) : Option ARes :=
  cnd (dyn C r) (forceTr (hset C S r (some o)) fun S => some (.vals v S nx)) <| none

def aMapSet (S : Tr AObj) (nx : Nat) (t : Nat) (m k v : AV) : Option ARes :=
  match C.P.underlying t, m with
  | some (.map kt _), .map r => (match hget C S r with
    | some (.map es clock) => cnd (aKeyOk C 20 kt k) (match findKey C S kt k es 0 with
      | some (some (i, _)) => (match nth es i with
        | some (k', _, born) => cnd (keySame 20 k' k) (setObj C S nx r (.map (es.set i (k, v, born)) clock) undef) none
        | none => none)
      | some none => setObj C S nx r (.map (es ++ [(k, v, clock)]) (clock + 1)) undef
      | none => none) none
    | _ => none)
  | _, _ => none

def aDelete (S : Tr AObj) (nx : Nat) (t : Nat) (m k : AV) : Option ARes :=
  match C.P.underlying t, m with
  | some (.map kt _), .map r => (match hget C S r with
    | some (.map es clock) => cnd (aKeyOk C 20 kt k) (match findKey C S kt k es 0 with
      | some (some (i, _)) => setObj C S nx r (.map (es.eraseIdx i) clock) (.tuple [])
      | some none => setObj C S nx r (.map es clock) (.tuple [])
      | none => none) none
    | _ => none)
  | _, _ => none
/-- a call that is known already? (plain values alone are compared) -/
def plainEq (x y : AV) : Bool := match x, y with
    | .bool a, .bool b => boolEq a b
    | .int k a, .int k' b => kindEq k k' && intEq a b
    | .str a, .str b => natsEq a b
    | .nilslice, .nilslice => true
    | .nilptr, .nilptr => true
    | .nilIface, .nilIface => true
    | _, _ => false
def plainsEq : List AV → List AV → Bool
  | [], [] => true
  | a :: x, b :: y => plainEq a b && plainsEq x y
  | _, _ => false
def known (f : Nat) (args : List AV) : List (Nat × List AV × AV) → Option AV
  | [] => none
  | (g, as, v) :: l => cnd (Nat.beq f g && plainsEq args as) (some v) <| known f args l

def aCallFunc (f : Nat) (args : List AV) : Option ARes :=
  match C.orc f args with
  | some v => some (.known f args v)
  | none => (match C.P.funcs[f]? with
    | some fn => (match fn.body with
      | some _ => some (.enter f args)
      | none => none)
    | none => none)

/-- maps.clone: a new map of the same entries -/
def aClone (S : Tr AObj) (nx f : Nat) (as : List AV) : Option ARes :=
  match as with
  | [.iface t (.map r)] => (match C.P.funcs[f]? with
    | some fn => cnd (fn.body.isNone && fn.name == "maps.clone" && fn.origin == "") (match hget C S r with
      | some (.map es clock) => newAt C S nx (.map es clock) fun b => .iface t (.map b)
      | _ => none) none
    | none => none)
  | _ => none
/-- internal/abi.NoEscape: what it is handed -/
def aEscape (f : Nat) (as : List AV) : Option ARes :=
  match as with
  | [v] => (match C.P.funcs[f]? with
    | some fn => cnd (fn.body.isNone && fn.name == "internal/abi.NoEscape" && fn.origin == "") (some (.val v)) none
    | none => none)
  | _ => none
def aInvoke (fn : Fn) (captured args : List AV) : Option ARes :=
  match fn with
  | .func f => aCallFunc C f (args ++ captured)
  | .yield l => some (.round l args)
  | _ => none

/-- a method called through an interface value -/
def aMethod (S : Tr AObj) (t : Nat) (v : AV) (name : String) (args : List AV) : Option ARes :=
  match C.P.info? t with
  | some i => (match i.methods.find? (·.name == name) with
    | some m => cnd m.path.isEmpty (match m.func, C.P.underlying t with
      | some (f, true), some (.pointer _) => aCallFunc C f (v :: args)
      | some (f, false), some (.pointer e) => (match aLoad C S e v with | some x => aCallFunc C f (x :: args) | none => none)
      | some (f, false), some _ => aCallFunc C f (v :: args)
      | _, _ => none) none
    | none => none)
  | none => none
def storeTo (S : Tr AObj) (nx s : Nat) (a v : AV) : Option ARes :=
  match a with
  | .ptr b o => cnd (Nat.beq v.cells.length s && Nat.blt 0 s) ((match aWrite C S b o v.cells with | some S' => some (.vals undef S' nx) | none => none)) <| none
  | _ => none

def hMapSet (t : Nat) (m k x : Operand) (S : Tr AObj) (nx : Nat) (ρ : Operand → Option AV) : Option ARes :=
  match ρ m, ρ k, ρ x with
  | some m, some k, some v => aMapSet C S nx t m k v
  | _, _, _ => none
def hMapEntry (t : Nat) (m k : Operand) (S : Tr AObj) (nx : Nat) (ρ : Operand → Option AV) : Option ARes :=
  match C.P.underlying t, ρ m, ρ k with
  | some (.map kt et), some (.map r), some k => (match hget C S r with
    | some (.map es clock) => cnd (aKeyOk C 20 kt k) (match findKey C S kt k es 0 with
      | some (some (i, v)) => (match nth es i with
        | some (k', v', born) => cnd (keySame 20 k' k) (setObj C S nx r (.map (es.set i (k, v', born)) clock) (.tuple [v, .int .i64 (Int.ofNat born)])) none
        | none => none)
      | some none => (match zeroOf C et with
        | some z => setObj C S nx r (.map (es ++ [(k, z, clock)]) (clock + 1)) (.tuple [z, .int .i64 (Int.ofNat clock)])
        | none => none)
      | none => none) none
    | _ => none)
  | _, _, _ => none
def hEntryStore (m s x : Operand) (S : Tr AObj) (nx : Nat) (ρ : Operand → Option AV) : Option ARes :=
  match ρ m, ρ s, ρ x with
  | some (.map r), some (.int _ (.ofNat born)), some v => (match hget C S r with
    | some (.map es clock) => (match es.findIdx? (fun e => Nat.beq e.2.2 born) with
      | some i => (match nth es i with
        | some (k, _, b) => setObj C S nx r (.map (es.set i (k, v, b)) clock) undef
        | none => none)
      | none => none)
    | _ => none)
  | _, _, _ => none
def hMakeSlice (t : Nat) (l c : Operand) (S : Tr AObj) (nx : Nat) (ρ : Operand → Option AV) : Option ARes :=
  match C.P.underlying t, ρ l, ρ c with
  | some (.slice elem), some l, some c => (match natOf l, natOf c, C.P.info? elem, zeroOf C elem with
    | some l, some c, some i, some z => cnd (Nat.ble l c && Nat.ble c 1048576 && Nat.ble i.bytes 65536 && Nat.blt 0 i.size && Nat.beq z.cells.length i.size) (newAt C S nx (.cells (Tr.ofList (repl c z.cells) 0 .nil) (c * i.size) .own) fun b => .slice b 0 l c) <| none
    | _, _, _, _ => none)
  | _, _, _ => none
def hMakeMap (t : Nat) (r : Operand) (S : Tr AObj) (nx : Nat) (ρ : Operand → Option AV) : Option ARes :=
  match C.P.underlying t, ρ r with
  | some (.map _ _), some (.int _ _) => newAt C S nx (.map [] 0) fun b => .map b
  | _, _ => none
def hStrBytes (s d : Nat) (x : Operand) (S : Tr AObj) (nx : Nat) (ρ : Operand → Option AV) : Option ARes :=
  match C.P.underlying s, C.P.underlying d, ρ x with
  | some .string, some (.slice e), some (.str l) => (match C.P.underlying e with
    | some (.int .u8) => growAt C S nx e l.length 1 (l.map fun n => AV.int .u8 (Int.ofNat n))
    | _ => none)
  | some (.slice _), some (.slice e), some (.slice b o len cap) => (match C.P.underlying e with
    | some (.int .u8) => cnd (Nat.beq s d && dyn C b) (match hget C S b with
      | some (.cells c n .own) => forceTr (hset C S b (some (.cells c n .marked))) fun S => some (.vals (.slice b o len cap) S nx)
      | some (.cells _ _ .marked) => some (.val (.slice b o len cap))
      | _ => none) none
    | _ => none)
  | _, _, _ => none
def hRange (t : Nat) (x : Operand) (S : Tr AObj) (nx : Nat) (ρ : Operand → Option AV) : Option ARes :=
  match C.P.underlying t, ρ x with
  | some .string, some (.str s) => newAt C S nx (.sit s 0) fun b => .ptr b 0
  | some (.map _ _), some .nilmap => newAt C S nx (.mit none 0 [] 0) fun b => .ptr b 0
  | some (.map _ _), some (.map r) => (match hget C S r with
    | some (.map _ clock) => newAt C S nx (.mit (some r) clock [] clock) fun b => .ptr b 0
    | _ => none)
  | _, _ => none
def memN (n : Nat) : List Nat → Bool
  | [] => false
  | a :: l => Nat.beq n a || memN n l
/-- the entries that a range over a map has not come to -/
def unseen (seen : List Nat) : List (AV × AV × Nat) → List (AV × AV × Nat)
  | [] => []
  | e :: es => cnd (memN e.2.2 seen) (unseen seen es) (e :: unseen seen es)
def allOld (since : Nat) : List (AV × AV × Nat) → Bool
  | [] => true
  | e :: es => Nat.blt e.2.2 since && allOld since es
def anyOld (since : Nat) : List (AV × AV × Nat) → Bool
  | [] => false
  | e :: es => Nat.blt e.2.2 since || anyOld since es
def forks (C : Cfg) (S : Tr AObj) (r m since clock : Nat) (seen : List Nat) : List (AV × AV × Nat) → List (AV × Tr AObj)
  | [] => []
  | (k, v, b) :: l => (.tuple [.bool true, k, v], hset C S r (some (.mit (some m) since (seen ++ [b]) clock))) :: forks C S r m since clock seen l
/-- the entries' births, as listed -/
def bornsEq : List (AV × AV × Nat) → List Nat → Bool
  | [], [] => true
  | e :: es, b :: bs => Nat.beq e.2.2 b && bornsEq es bs
  | _, _ => false
/-- whatever entry may come -/
def choicesN (C : Cfg) (S : Tr AObj) (r : Nat) (o : Option Nat → AObj) : List (AV × AV × Nat) → List (AV × Tr AObj)
  | [] => []
  | (k, v, b) :: l => (.tuple [.bool true, k, v], hset C S r (some (o (some b)))) :: choicesN C S r o l
def hNext (it : Operand) (isString : Bool) (S : Tr AObj) (nx : Nat) (ρ : Operand → Option AV) : Option ARes :=
  match ρ it with
  | some (.ptr r 0) => cnd (dyn C r) (match hget C S r, isString with
    | some (.sit s pos), true => cnd (Nat.blt pos s.length) (match nth s pos with
         | some c => cnd (Nat.blt c 128) (setObj C S nx r (.sit s (pos + 1)) (.tuple [.bool true, .int .i64 (Int.ofNat pos), .int .i32 (Int.ofNat c)])) none
         | none => none)
      (some (.val (.tuple [.bool false])))
    | some (.mit none _ _ _), false => some (.val (.tuple [.bool false]))
    | some (.mit (some m) since seen stepped), false => (match hget C S m with
      | some (.map es clock) => (match unseen seen es with
        | [] => cnd (allOld since es) (cnd (anyOld stepped es || seen.isEmpty || es.isEmpty) (some (.val (.tuple [.bool false]))) none) none
        | [(k, v, b)] => cnd (allOld since es && anyOld stepped es) (setObj C S nx r (.mit (some m) since (seen ++ [b]) clock) (.tuple [.bool true, k, v])) none
        | l => cnd (allOld since es && anyOld stepped es) (some (.fork (forks C S r m since clock seen l))) none)
      | _ => none)
    | some (.mitN m since n bs st _), false => (match hget C S m with
      | some (.map es clock) => cnd ((bornsEq es bs && Nat.beq st clock) && (allOld since es && anyOld st es)) (match n with
        | 0 => some (.val (.tuple [.bool false]))
        | n + 1 => some (.fork ((.tuple [.bool false], S) :: choicesN C S r (.mitN m since n bs st) es))) none
      | _ => none)
    | _, _ => none) none
  | _ => none
def hPanic (x : Operand) (_ : Tr AObj) (_ : Nat) (ρ : Operand → Option AV) : Option ARes :=
  match ρ x with | some (.iface t v) => some (.panic (.iface t v)) | _ => none
def hDefer (c : Call) (_ : Tr AObj) (_ : Nat) (ρ : Operand → Option AV) : Option ARes :=
  match c with
  | ⟨.value f, args, _⟩ => (match ρ f, evalAll ρ args.toList with
    | some (.func fn first captured), some as => some (.defer ⟨.fn fn captured, first ++ as⟩)
    | _, _ => none)
  | _ => none
/-- where a slice begins -/
def aSliceData (S : Tr AObj) (x : AV) : Option ARes := match x with
  | .nilslice => some (.val .nilptr)
  | .slice b o _ cap => cnd (Nat.blt 0 cap) (some (.val (.ptr b o))) none
  | .sliceU b o _ sz => (match sizeAt C S b with | some n => cnd (Nat.blt 0 sz && Nat.ble (o + sz) n) (some (.val (.ptr b o))) none | none => none)
  | _ => none
/-- bytes as a string: their row may not be written any more -/
def aUnsafeStr (S : Tr AObj) (nx pt : Nat) (p k : AV) : Option ARes := match p, k with
  | .nilptr, .int .i64 (.ofNat m) => cnd (Nat.beq m 0) (some (.val (.str []))) none
  | .ptr b o, .int .i64 (.ofNat m) => (match C.P.underlying pt, hget C S b with
    | some (.pointer e), some (.cells c n (.grow g)) => (match szOf C e, c.getN o m with
      | some z, some l => (match bytesOfCells l with
        | some s => cnd ((dyn C b && Nat.beq g.ty e && Nat.beq z 1) && (Nat.blt 0 m && Nat.ble (o + m) n && Nat.ble m 1048576)) (forceTr (hset C S b (some (.cells c n .stale))) fun S => some (.vals (.str s) S nx)) none
        | none => none)
      | _, _ => none)
    | _, _ => none)
  | _, _ => none
def hBuiltin (b : Builtin) (args : Array Operand) (ats : Array TypeId) (S : Tr AObj) (nx : Nat) (ρ : Operand → Option AV) : Option ARes :=
  match b, evalAll ρ args.toList with
  | .append, some [s, x] => (match ats.toList with
    | st :: xt :: _ => (match C.P.underlying xt with
      | some (.int _) => (match natOf x with | some n => aGrow C S nx st s n | none => none)
      | some (.slice _) => aAppend C S nx st s x
      | some .string => aAppend C S nx st s x
      | _ => none)
    | _ => none)
  | .copy, some [d, x] => (match ats.toList with
    | st :: _ => aCopy C S nx st d x
    | _ => none)
  | .recover, some [] => some .recover
  | .unsafeSliceData, some [x] => aSliceData C S x
  | .unsafeString, some [p, k] => (match ats.toList with
    | pt :: _ :: l => (match l with | [] => aUnsafeStr C S nx pt p k | _ => none)
    | _ => none)
  | .clear, some [x] => (match ats.toList with
    | t :: _ => aClear C S nx t x
    | _ => none)
  | .delete, some [m, k] => (match ats.toList with
    | t :: _ => aDelete C S nx t m k
    | _ => none)
  | _, _ => none
def hCall (c : Call) (S : Tr AObj) (nx : Nat) (ρ : Operand → Option AV) : Option ARes :=
  match c with
  | ⟨.value f, args, _⟩ => (match ρ f, evalAll ρ args.toList with
    | some (.func fn first captured), some as => aInvoke C fn captured (first ++ as)
    | _, _ => none)
  | ⟨.builtin b, args, ats⟩ => hBuiltin C b args ats S nx ρ
  | ⟨.invoke r name, args, _⟩ => (match ρ r, evalAll ρ args.toList with
    | some (.iface t v), some as => aMethod C S t v name as
    | _, _ => none)

def aHeavy (o : Op) : Cfg → Tr AObj → Nat → (Operand → Option AV) → Option ARes :=
  match o with
  | .mapUpdate t m k x => fun C => hMapSet C t m k x
  | .insert t m k x => fun C => hMapSet C t m k x
  | .mapEntry t m k => fun C => hMapEntry C t m k
  | .entryStore _ m s x => fun C => hEntryStore C m s x
  | .makeSlice t l c => fun C => hMakeSlice C t l c
  | .makeMap t (some r) => fun C => hMakeMap C t r
  | .convert s d x => fun C => hStrBytes C s d x
  | .range t x => fun C => hRange C t x
  | .next it isString => fun C => hNext C it isString
  | .panic x => fun _ => hPanic x
  | .defer c => fun _ => hDefer c
  | .call c => fun C => hCall C c
  | _ => fun _ _ _ _ => none
end ops

/-! ### Operands and operations, made ready once -/
def evx (x : CX) : List (Nat × AV) → Tr AV → Option AV :=
  match x with
  | .v j => fun V _ => assocN V j
  | .t n => fun _ T => T.get n
  | .c a => fun _ _ => some a
def evxs (V : List (Nat × AV)) (T : Tr AV) : List CX → Option (List AV)
  | [] => some []
  | x :: l => match evx x V T with
    | none => none
    | some v => match evxs V T l with
      | none => none
      | some r => some (v :: r)
def ofOperand (o : Operand) : Option AV := match o with
  | .const v => ofV v
  | .global g => some (.ptr g 0)
  | .func f => some (.func (.func f) [] [])
  | .tmp _ => none
def evo (srcs : List (Nat × Nat)) (V : List (Nat × AV)) (T : Tr AV) (o : Operand) : Option AV := match o with
  | .tmp t => (match assocN srcs t with | some j => assocN V j | none => T.get t)
  | .const v => ofV v
  | .global g => some (.ptr g 0)
  | .func f => some (.func (.func f) [] [])

def xOff (d : Nat) (v : AV) : Option AV := match v with | .ptr b o => some (.ptr b (o + d)) | _ => none
def xPick (c : AV) (a b : CX) (V : List (Nat × AV)) (T : Tr AV) : Option AV := match c with
  | .bool c => cnd c (evx a V T) (evx b V T)
  | _ => none
def xIxA (n sz : Nat) (x : AV) (i : Nat) : Option AV := match x with | .ptr b o => cnd (Nat.blt i n) (some (.ptr b (o + i * sz))) none | _ => none
def xIxS (sz : Nat) (x : AV) (i : Nat) : Option AV := match x with
  | .slice b o len _ => cnd (Nat.blt i len) (some (.ptr b (o + i * sz))) none
  | .sliceU b o len _ => cnd (Nat.blt i len) (some (.ptr b (o + i * sz))) none
  | _ => none
def xNil (v : AV) : Option AV := match v with
  | .ptr b o => some (.ptr b o)
  | .func fn a b => (match fn with | .func f => some (.func (.func f) a b) | .yield f => some (.func (.yield f) a b) | _ => none)
  | .iface t v => some (.iface t v)
  | _ => none
def xExt (i : Nat) (v : AV) : Option AV := match v with | .tuple vs => nth vs i | _ => none

/-- what only reads -/
def exLight (o : COp) : Cfg → Tr AObj → List (Nat × AV) → Tr AV → Option AV :=
  match o with
  | .mov x => fun _ _ => evx x
  | .pick c a b => fun _ _ V T => (match evx c V T with | some c => xPick c a b V T | none => none)
  | .ld1 a => fun C S V T => (match evx a V T with | some a => aLd1 C S a | none => none)
  | .ldN n a => fun C S V T => (match evx a V T with | some a => aLdN C S n a | none => none)
  | .off d x => fun _ _ V T => (match evx x V T with | some a => xOff d a | none => none)
  | .ixA n sz x i => fun _ _ V T => (match evx x V T with | some a => (match evx i V T with | some i => (match natOf i with | some i => xIxA n sz a i | none => none) | none => none) | none => none)
  | .ixS sz x i => fun _ _ V T => (match evx x V T with | some a => (match evx i V T with | some i => (match natOf i with | some i => xIxS sz a i | none => none) | none => none) | none => none)
  | .nilck x => fun _ _ V T => (match evx x V T with | some a => xNil a | none => none)
  | .ib op x y => fun _ _ V T => (match evx x V T with | some a => (match evx y V T with | some b => aIBin op a b | none => none) | none => none)
  | .ext i x => fun _ _ V T => (match evx x V T with | some a => xExt i a | none => none)
  | .light srcs o => fun C S V T => aLight o C S (evo srcs V T)
  | _ => fun _ _ _ _ => none
def exMake (o : COp) : Cfg → Nat → List (Nat × AV) → Tr AV → Option (AV × AObj) :=
  match o with
  | .make srcs o => fun C b V T => aMake o C (evo srcs V T) b
  | _ => fun _ _ _ _ => none
def exHeavy (o : COp) : Cfg → Tr AObj → Nat → List (Nat × AV) → Tr AV → Option ARes :=
  match o with
  | .st n a v => fun C S nx V T => (match evx a V T with | some a => (match evx v V T with | some v => storeTo C S nx n a v | none => none) | none => none)
  | .call f args => fun C S nx V T => (match evxs V T args with | some as => (match aClone C S nx f as with | some r => some r | none => (match aCallFunc C f as with | some r => some r | none => aEscape C f as)) | none => none)
  | .heavy srcs o => fun C S nx V T => aHeavy o C S nx (evo srcs V T)
  | _ => fun _ _ _ _ _ => none
inductive Kind where | light | make | heavy
def kindC (o : COp) : Kind := match o with
  | .st .. => .heavy | .call .. => .heavy | .heavy .. => .heavy
  | .make .. => .make
  | _ => .light
def toVal (o : Option AV) : Option ARes := match o with | some v => some (.val v) | none => none
def makeNow (o : COp) (C : Cfg) (S : Tr AObj) (nx : Nat) (V : List (Nat × AV)) (T : Tr AV) : Option ARes :=
  forceN nx fun nx => (match exMake o C nx V T with | some (v, ob) => forceTr (hset C S nx (some ob)) fun S => some (.vals v S (nx + 1)) | none => none)
/-- any operation, where the order is the text's -/
def exAny (o : COp) : Cfg → Tr AObj → Nat → List (Nat × AV) → Tr AV → Option ARes :=
  match kindC o with
  | .light => fun C S _ V T => toVal (exLight o C S V T)
  | .make => makeNow o
  | .heavy => exHeavy o

/-! ### A region made ready -/
def bit (m i : Nat) : Bool := Nat.beq (Nat.mod (Nat.div m (Nat.pow 2 i)) 2) 1
def toCX (srcs : List (Nat × Nat)) (o : Operand) : Option CX := match o with
  | .tmp t => (match assocN srcs t with | some j => some (.v j) | none => some (.t t))
  | .const v => (match ofV v with | some a => some (.c a) | none => none)
  | .global g => some (.c (.ptr g 0))
  | .func f => some (.c (.func (.func f) [] []))
def toCXs (srcs : List (Nat × Nat)) : List Operand → Option (List CX)
  | [] => some []
  | x :: l => match toCX srcs x, toCXs srcs l with | some v, some r => some (v :: r) | _, _ => none
def isStrBytes (C : Cfg) (s d : Nat) : Bool := match C.P.underlying s, C.P.underlying d with
  | some .string, some (.slice _) => true
  | some (.slice _), some (.slice _) => true
  | _, _ => false
def intT (C : Cfg) (t : Nat) : Bool := match C.P.underlying t with | some (.int _) => true | _ => false
def cOp (C : Cfg) (srcs : List (Nat × Nat)) (o : Op) : Option COp :=
  match o with
  | .move x | .assign x => (match toCX srcs x with | some x => some (.mov x) | none => none)
  | .pick c a b => (match toCX srcs c, toCX srcs a, toCX srcs b with | some c, some a, some b => some (.pick c a b) | _, _, _ => none)
  | .load t a => (match toCX srcs a, isAggT C t, szOf C t with
    | some a, some true, some s => some (.ldN s a)
    | some a, some false, _ => some (.ld1 a)
    | _, _, _ => none)
  | .fieldAddr s x f => (match C.P.underlying s, toCX srcs x with
    | some (.struct fields), some x => (match nth fields.toList f with
      | some fd => (match szOf C fd.type with | some z => cnd (Nat.beq z 0) (none) <| some (.off fd.offset x) | none => none)
      | none => none)
    | _, _ => none)
  | .indexAddr t x i => (match C.P.underlying t, toCX srcs x, toCX srcs i with
    | some (.array n elem), some x, some i => (match szOf C elem with | some sz => some (.ixA n sz x i) | none => none)
    | some (.slice elem), some x, some i => (match szOf C elem with | some sz => some (.ixS sz x i) | none => none)
    | _, _, _ => none)
  | .nilCheck x => (match toCX srcs x with | some x => some (.nilck x) | none => none)
  | .binOp op t x y yt => cnd (intT C t) ((match toCX srcs x, toCX srcs y with | some x, some y => some (.ib op x y) | _, _ => none)) <| some (.light srcs (.binOp op t x y yt))
  | .extract x i => (match toCX srcs x with | some x => some (.ext i x) | none => none)
  | .store t a x => (match toCX srcs a, toCX srcs x, szOf C t with | some a, some x, some s => some (.st s a x) | _, _, _ => none)
  | .call ⟨.value (.func f), args, ats⟩ => (match toCXs srcs args.toList with | some as => some (.call f as) | none => none)
  | .call ⟨.builtin b, args, ats⟩ => (match b with
    | .len | .cap | .max | .min => some (.light srcs (.call ⟨.builtin b, args, ats⟩))
    | _ => some (.heavy srcs (.call ⟨.builtin b, args, ats⟩)))
  | .call c => some (.heavy srcs (.call c))
  | .convert s d x => cnd (isStrBytes C s d) (some (.heavy srcs (.convert s d x))) <| some (.light srcs (.convert s d x))
  | .alloc t => some (.make srcs (.alloc t))
  | .box t x => some (.make srcs (.box t x))
  | .buildSlice t l p => some (.make srcs (.buildSlice t l p))
  | .makeMap t none => some (.make srcs (.makeMap t none))
  | .makeMap t (some r) => some (.heavy srcs (.makeMap t (some r)))
  | .mapUpdate t m k x => some (.heavy srcs (.mapUpdate t m k x))
  | .insert t m k x => some (.heavy srcs (.insert t m k x))
  | .mapEntry t m k => some (.heavy srcs (.mapEntry t m k))
  | .entryStore t m s x => some (.heavy srcs (.entryStore t m s x))
  | .makeSlice t l c => some (.heavy srcs (.makeSlice t l c))
  | .range t x => some (.heavy srcs (.range t x))
  | .next i s => some (.heavy srcs (.next i s))
  | .panic x => some (.heavy srcs (.panic x))
  | .defer c => some (.heavy srcs (.defer c))
  | o => some (.light srcs o)
/-- the operation of that number's temporary -/
def dstAt (j : Nat) : List (Nat × Nat) → Option Nat
  | [] => none
  | (t, i) :: l => cnd (Nat.beq i j) (some t) <| dstAt j l
/-- the guard: its operation's value is still in its temporary -/
def cGuard (wr : List (Nat × Nat)) (g : Option (Nat × Bool)) : Option (Option (Nat × Bool)) := match g with
  | none => some none
  | some (j, want) => (match dstAt j wr with
    | some t => (match assocN wr t with
      | some j' => cnd (Nat.beq j j') (some (some (j, want))) <| none
      | none => none)
    | none => none)
def addWr (o : Oper) (i : Nat) (wr : List (Nat × Nat)) : List (Nat × Nat) := match o.dst with | some d => (d, i) :: wr | none => wr
def dstOk (n : Nat) (o : Oper) : Bool := match o.dst with | some d => Nat.blt d n | none => true
/-- what is read is written in the region, or is one of those that are kept -/
def okRead (C : Cfg) (lv : Nat) (srcs : List (Nat × Nat)) (o : Operand) : Bool := match o with
  | .tmp t => (match assocN srcs t with | some _ => true | none => bit lv t)
  | .global g => Nat.blt g C.ng
  | _ => true
def okReads (C : Cfg) (lv : Nat) (srcs : List (Nat × Nat)) : List Operand → Bool
  | [] => true
  | x :: l => okRead C lv srcs x && okReads C lv srcs l
def cIs (C : Cfg) (n lv : Nat) : List Oper → Nat → List (Nat × Nat) → Option (List CI)
  | [], _, _ => some []
  | o :: l, i, wr => forceN i fun i => match cGuard wr o.guard, cOp C wr o.op with
    | some g, some op => cnd (dstOk n o && okReads C lv wr o.op.operands.toList) (match cIs C n lv l (i + 1) (addWr o i wr) with | some r => some (⟨i, g, op⟩ :: r) | none => none) none
    | _, _ => none
/-- where the temporaries lie that are read behind the region -/
def finOf (lv : Nat) : List Oper → Nat → List (Nat × Nat)
  | [], _ => []
  | o :: l, i => match o.dst with
    | some d => cnd (bit lv d) ((i, d) :: finOf lv l (i + 1)) <| finOf lv l (i + 1)
    | none => finOf lv l (i + 1)
def dstsOf : List Oper → List Nat
  | [] => []
  | o :: l => match o.dst with | some d => d :: dstsOf l | none => dstsOf l
structure CSeq where
  rest : List CI
  fin : List (Nat × Nat)
def mkSeq (C : Cfg) (n : Nat) (ops : Array Oper) (lv : Nat) : Option CSeq :=
  match cIs C n lv ops.toList 0 [] with
  | some cs => some ⟨cs, finOf lv ops.toList 0⟩
  | none => none

/-! The order drawn: what stands ahead of each operation (bits), what it reads and writes (bits of temporaries) -/
def opMask (o : Operand) (m : Nat) : Nat := match o with | .tmp t => Nat.lor m (Nat.pow 2 t) | _ => m
def opsMask (l : List Operand) : Nat := l.foldr opMask 0
def dstMask (o : Oper) : Nat := match o.dst with | some d => Nat.pow 2 d | none => 0
def guardMask (wr : List (Nat × Nat)) (g : Option (Nat × Bool)) : Nat := match g with
  | none => 0
  | some (j, _) => (match dstAt j wr with | some t => Nat.pow 2 t | none => 0)
def edgeMask (ms : List (Nat × Nat)) (e : Edge) (m : Nat) : Nat :=
  cnd (bit m e.on) (m) <| cnd (Region.binds .any e) ((match assocN ms e.on with | some k => Nat.lor (Nat.lor m k) (Nat.pow 2 e.on) | none => m)) <| m
structure Pre where
  i : Nat
  m : Nat
  r : Nat
  w : Nat
def mkPres : List Oper → Nat → List (Nat × Nat) → List (Nat × Nat) → List Pre
  | [], _, _, _ => []
  | o :: l, i, wr, ms => forceN i fun i => forceN (o.after.toList.foldr (edgeMask ms) 0) fun m =>
    ⟨i, m, Nat.lor (opsMask o.op.operands.toList) (guardMask wr o.guard), dstMask o⟩ :: mkPres l (i + 1) (addWr o i wr) ((i, m) :: ms)
def okPair (a b : Pre) : Bool :=
  bit b.m a.i || (Nat.beq (Nat.land a.w (Nat.lor b.r b.w)) 0 && Nat.beq (Nat.land b.w a.r) 0)
def okWith (a : Pre) : List Pre → Bool
  | [] => true
  | b :: l => okPair a b && okWith a l
def okPairs : List Pre → Bool
  | [] => true
  | a :: l => okWith a l && okPairs l
def heavyChain : List Pre → Bool
  | [] => true
  | a :: l => (match l with | [] => true | b :: _ => bit b.m a.i) && heavyChain l
/-- every edge that binds leads back -/
def okEdges : List Oper → Nat → Bool
  | [], _ => true
  | o :: l, i => o.after.toList.all (fun e => !Region.binds .any e || Nat.blt e.on i) && okEdges l (i + 1)
def countPre (m : Nat) : List Pre → Nat
  | [] => 0
  | h :: l => cnd (bit m h.i) (Nat.succ (countPre m l)) <| countPre m l
def hiOf (i : Nat) : List Pre → Nat
  | [] => 0
  | h :: l => cnd (bit h.m i) (0) <| Nat.succ (hiOf i l)
structure LightI where
  x : CI
  lo : Nat
  hi : Nat
def isHeavy (o : COp) : Bool := match kindC o with | .heavy => true | _ => false
def heaviesOf : List Pre → List CI → List (Pre × CI)
  | p :: ps, c :: cs => cnd (isHeavy c.op) ((p, c) :: heaviesOf ps cs) <| heaviesOf ps cs
  | _, _ => []
def lightsOf (hs : List Pre) : List Pre → List CI → List LightI
  | p :: ps, c :: cs => cnd (isHeavy c.op) (lightsOf hs ps cs) <| ⟨c, countPre p.m hs, hiOf p.i hs⟩ :: lightsOf hs ps cs
  | _, _ => []
def atLo (k : Nat) : List LightI → List CI
  | [] => []
  | l :: ls => cnd (Nat.beq l.lo k) (l.x :: atLo k ls) <| atLo k ls
def reAt (k : Nat) : List LightI → List CI
  | [] => []
  | l :: ls => cnd (Nat.blt l.lo k && Nat.ble k l.hi && sensitive l.x.op) (l.x :: reAt k ls) <| reAt k ls
def mkStages (ls : List LightI) : Nat → List (Pre × CI) → List Stage
  | k, [] => [⟨atLo k ls, reAt k ls, none⟩]
  | k, (_, hx) :: l => ⟨atLo k ls, reAt k ls, some hx⟩ :: mkStages ls (k + 1) l
def fstOf : List (Pre × CI) → List Pre
  | [] => []
  | (p, _) :: l => p :: fstOf l
structure CDrawn where
  stages : List Stage
  fin : List (Nat × Nat)
def mkDrawn (C : Cfg) (n : Nat) (ops : Array Oper) (lv : Nat) : Option CDrawn :=
  match cIs C n lv ops.toList 0 [] with
  | none => none
  | some cs => (fun all => (fun hs => cnd (okEdges ops.toList 0 && okPairs all && heavyChain (fstOf hs)) (some ⟨mkStages (lightsOf (fstOf hs) all cs) 0 hs, finOf lv ops.toList 0⟩) <| none) (heaviesOf all cs)) (mkPres ops.toList 0 [] [])

/-! ### Which temporaries are read behind their region -/
def exposed : List Oper → Nat → Nat → Nat
  | [], _, r => r
  | o :: l, defd, r => exposed l (Nat.lor defd (dstMask o)) ((fun rd => Nat.lor r (Nat.xor rd (Nat.land rd defd))) (opsMask o.op.operands.toList))
def liveOf : Code → Nat
  | .region _ ops _ => exposed ops.toList 0 0
  | .seq a b => Nat.lor (liveOf a) (liveOf b)
  | .cond c a b => opMask c (Nat.lor (liveOf a) (liveOf b))
  | .block _ b => liveOf b
  | .loop b => liveOf b
  | .scope b => liveOf b
  | .rangeFunc f _ a b => opMask f (Nat.lor (liveOf a) (liveOf b))
  | _ => 0
def resMask (l : List ResultVar) : Nat := l.foldr (fun x r => match x with | .tmp t => Nat.lor r (Nat.pow 2 t) | .cell a _ => Nat.lor r (Nat.pow 2 a)) 0
/-- what is read outside of regions is kept -/
def codeOk (C : Cfg) (lv : Nat) : Code → Bool
  | .seq a b => codeOk C lv a && codeOk C lv b
  | .cond c a b => okRead C lv [] c && (codeOk C lv a && codeOk C lv b)
  | .block _ b => codeOk C lv b
  | .loop b => codeOk C lv b
  | .scope b => codeOk C lv b
  | .rangeFunc f _ a b => okRead C lv [] f && (codeOk C lv a && codeOk C lv b)
  | _ => true
def resOk (lv : Nat) : List ResultVar → Bool
  | [] => true
  | .tmp t :: l => bit lv t && resOk lv l
  | .cell a _ :: l => bit lv a && resOk lv l

end
end Go.AE

namespace Go.AE

@[simp] theorem cnd_true {α : Type _} (a b : α) : cnd true a b = a := rfl
@[simp] theorem cnd_false {α : Type _} (a b : α) : cnd false a b = b := rfl
theorem cnd_ite {α : Type _} (c : Bool) (a b : α) : cnd c a b = if c = true then a else b := by cases c <;> rfl
theorem cnd_beq {α : Type _} (x y : Nat) (a b : α) : cnd (Nat.beq x y) a b = if x = y then a else b := by
  rw [cnd_ite]; by_cases h : x = y
  · rw [if_pos h, if_pos (Nat.beq_eq ▸ h)]
  · rw [if_neg h, if_neg (fun e => h (Nat.eq_of_beq_eq_true e))]
@[simp] theorem cnd_none {α : Type _} (c : Bool) (a : Option α) (v : α) : cnd c a none = some v ↔ c = true ∧ a = some v := by cases c <;> simp
@[simp] theorem forceN_eq {β : Type} (n : Nat) (k : Nat → β) : forceN n k = k n := by cases n <;> rfl
@[simp] theorem forceI_eq {β : Type} (n : Int) (k : Int → β) : forceI n k = k n := by
  cases n with
  | ofNat m => exact forceN_eq m fun m => k (.ofNat m)
  | negSucc m => exact forceN_eq m fun m => k (.negSucc m)
@[simp] theorem forceTr_eq {α β : Type} (t : Tr α) (k : Tr α → β) : forceTr t k = k t := by cases t <;> rfl
@[simp] theorem assocN_nil {α : Type} (j : Nat) : assocN ([] : List (Nat × α)) j = none := rfl
theorem assocN_cons {α : Type} (a : Nat) (b : α) (l : List (Nat × α)) (j : Nat) : assocN ((a, b) :: l) j = if a = j then some b else assocN l j := by
  show cnd (Nat.beq a j) (some b) (assocN l j) = _
  rw [cnd_beq]
@[simp] theorem nth_eq {α : Type} (l : List α) : ∀ i, nth l i = l[i]? := by
  induction l with
  | nil => intro i; rfl
  | cons a l ih => intro i; cases i with
    | zero => rfl
    | succ j => exact ih j

namespace Tr
variable {α : Type}
@[simp] theorem get_nil (i : Nat) : (Tr.nil : Tr α).get i = none := rfl
@[simp] theorem get_zero (v : Option α) (l r : Tr α) : (Tr.node v l r).get 0 = v := rfl
theorem get_succ (v : Option α) (l r : Tr α) (j : Nat) : (Tr.node v l r).get (j + 1) = if j % 2 = 0 then l.get (j / 2) else r.get (j / 2) := by
  show cnd (Nat.beq (j % 2) 0) (l.get (j / 2)) (r.get (j / 2)) = _
  rw [cnd_beq]
theorem setF_nil_zero (f : Nat) (a : Option α) : setF (f + 1) Tr.nil 0 a = .node a .nil .nil := rfl
theorem setF_nil_succ (f j : Nat) (a : Option α) : setF (f + 1) Tr.nil (j + 1) a =
    if j % 2 = 0 then .node none (setF f .nil (j / 2) a) .nil else .node none .nil (setF f .nil (j / 2) a) := by
  show cnd (Nat.beq (j % 2) 0) (forceTr (setF f .nil (j / 2) a) fun l' => Tr.node none l' Tr.nil) (forceTr (setF f .nil (j / 2) a) fun r' => Tr.node none Tr.nil r') = _
  rw [cnd_beq, forceTr_eq, forceTr_eq]
theorem setF_node_zero (f : Nat) (v : Option α) (l r : Tr α) (a : Option α) : setF (f + 1) (.node v l r) 0 a = .node a l r := rfl
theorem setF_node_succ (f j : Nat) (v : Option α) (l r : Tr α) (a : Option α) : setF (f + 1) (.node v l r) (j + 1) a =
    if j % 2 = 0 then .node v (setF f l (j / 2) a) r else .node v l (setF f r (j / 2) a) := by
  show cnd (Nat.beq (j % 2) 0) (forceTr (setF f l (j / 2) a) fun l' => Tr.node v l' r) (forceTr (setF f r (j / 2) a) fun r' => Tr.node v l r') = _
  rw [cnd_beq, forceTr_eq, forceTr_eq]
theorem get_setF : ∀ (f : Nat) (t : Tr α) (i j : Nat) (a : Option α), i < f → (setF f t i a).get j = if i = j then a else t.get j := by
  intro f
  induction f with
  | zero => intro t i j a h; omega
  | succ f ih =>
    intro t i j a h
    cases i with
    | zero =>
      cases t with
      | nil => rw [setF_nil_zero]; cases j with
        | zero => simp
        | succ j => rw [get_succ]; simp
      | node v l r => rw [setF_node_zero]; cases j with
        | zero => simp
        | succ j => rw [get_succ, get_succ]; simp
    | succ i =>
      have hi : i / 2 < f := by omega
      cases t with
      | nil =>
        rw [setF_nil_succ]
        cases j with
        | zero => split <;> simp
        | succ j =>
          by_cases e : i % 2 = 0
          · rw [if_pos e, get_succ]
            by_cases e' : j % 2 = 0
            · rw [if_pos e', ih _ _ _ _ hi]
              by_cases q : i / 2 = j / 2
              · rw [if_pos q, if_pos (by omega)]
              · rw [if_neg q, if_neg (by omega)]; rfl
            · rw [if_neg e', if_neg (by omega)]; rfl
          · rw [if_neg e, get_succ]
            by_cases e' : j % 2 = 0
            · rw [if_pos e', if_neg (by omega)]; rfl
            · rw [if_neg e', ih _ _ _ _ hi]
              by_cases q : i / 2 = j / 2
              · rw [if_pos q, if_pos (by omega)]
              · rw [if_neg q, if_neg (by omega)]; rfl
      | node v l r =>
        rw [setF_node_succ]
        cases j with
        | zero => split <;> simp
        | succ j =>
          rw [get_succ v l r]
          by_cases e : i % 2 = 0
          · rw [if_pos e, get_succ]
            by_cases e' : j % 2 = 0
            · rw [if_pos e', if_pos e', ih _ _ _ _ hi]
              by_cases q : i / 2 = j / 2
              · rw [if_pos q, if_pos (by omega)]
              · rw [if_neg q, if_neg (by omega)]
            · rw [if_neg e', if_neg e', if_neg (by omega)]
          · rw [if_neg e, get_succ]
            by_cases e' : j % 2 = 0
            · rw [if_pos e', if_pos e', if_neg (by omega)]
            · rw [if_neg e', if_neg e', ih _ _ _ _ hi]
              by_cases q : i / 2 = j / 2
              · rw [if_pos q, if_pos (by omega)]
              · rw [if_neg q, if_neg (by omega)]
theorem get_set (t : Tr α) (i j : Nat) (a : Option α) : (t.set i a).get j = if i = j then a else t.get j := get_setF _ _ _ _ _ (by omega)
theorem get_ofList (l : List α) : ∀ (i : Nat) (t : Tr α) (j : Nat), (ofList l i t).get j = if i ≤ j ∧ j < i + l.length then l[j - i]? else t.get j := by
  induction l with
  | nil => intro i t j; simp only [ofList, List.length_nil]; rw [if_neg (by omega)]
  | cons a l ih =>
    intro i t j
    simp only [ofList, forceTr_eq]
    rw [ih, get_set]
    by_cases e : i = j
    · subst e; rw [if_neg (by omega), if_pos rfl, if_pos (by simp)]; simp
    · rw [if_neg e]
      by_cases q : i + 1 ≤ j ∧ j < i + 1 + l.length
      · rw [if_pos q, if_pos (by simp; omega)]
        have : j - i = (j - (i + 1)) + 1 := by omega
        rw [this, List.getElem?_cons_succ]
      · rw [if_neg q, if_neg (by simp; omega)]
theorem getN_spec (t : Tr α) : ∀ (n o : Nat) (l : List α), t.getN o n = some l → l.length = n ∧ ∀ i, i < n → t.get (o + i) = l[i]? := by
  intro n
  induction n with
  | zero => intro o l h; simp [getN] at h; subst h; simp
  | succ n ih =>
    intro o l h
    simp only [getN] at h
    cases hg : t.get o with
    | none => simp [hg] at h
    | some a =>
      simp only [hg] at h
      cases hr : getN t (o + 1) n with
      | none => simp [hr] at h
      | some r =>
        simp only [hr, Option.some.injEq] at h
        subst h
        obtain ⟨h1, h2⟩ := ih _ _ hr
        refine ⟨by simp [h1], fun i hi => ?_⟩
        cases i with
        | zero => simpa using hg
        | succ i => rw [show o + (i + 1) = o + 1 + i by omega, h2 i (by omega)]; simp
end Tr
theorem writeN_eq (l : List AV) : ∀ (c : Tr AV) (o : Nat), writeN c o l = Tr.ofList l o c := by
  induction l with
  | nil => intro c o; rfl
  | cons v l ih => intro c o; simp only [writeN, Tr.ofList, forceTr_eq]; exact ih _ _

/-! ### What an abstract value stands for -/
structure Pl where
  blk : Nat
  sh : Nat
  room : Nat
  deriving Inhabited
abbrev Phi := Nat → Pl

def cFn (φ : Phi) : Fn → Fn
  | .yield l => .yield (φ l).blk
  | f => f
def bytesOf (s : List Nat) : ByteArray := ⟨(s.map UInt8.ofNat).toArray⟩
mutual
def conc (φ : Phi) : AV → Value
  | .bool b => .bool b
  | .int k n => .int k n
  | .str s => .string (bytesOf s)
  | .ptr b o => .pointer (some ⟨(φ b).blk, (φ b).sh + o, none⟩)
  | .nilptr => .pointer none
  | .slice b o len cap => .slice (some ⟨(φ b).blk, (φ b).sh + o, none⟩) len cap
  | .sliceU b o len sz => .slice (some ⟨(φ b).blk, (φ b).sh + o, none⟩) len (((φ b).room - o) / sz)
  | .nilslice => .slice none 0 0
  | .map m => .map (some (φ m).blk)
  | .nilmap => .map none
  | .func fn a b => .func (cFn φ fn) (concs φ a).toArray (concs φ b).toArray
  | .nilFunc => .nilFunc
  | .iface t v => .iface t (conc φ v)
  | .nilIface => .nilIface
  | .agg cs => .agg (concs φ cs).toArray
  | .tuple vs => .tuple (concs φ vs).toArray
def concs (φ : Phi) : List AV → List Value
  | [] => []
  | v :: l => conc φ v :: concs φ l
end
theorem concs_eq (φ : Phi) (l : List AV) : concs φ l = l.map (conc φ) := by
  induction l with
  | nil => rfl
  | cons v l ih => simp [concs, ih]

def goodFn (D : Nat → Prop) : Fn → Prop
  | .yield l => D l
  | .func _ => True
  | _ => False
def okSz (sz : Nat) : Prop := 0 < sz
mutual
def good (D : Nat → Prop) : AV → Prop
  | .bool _ => True
  | .int _ _ => True
  | .str s => ∀ x ∈ s, x < 256
  | .ptr b _ => D b
  | .nilptr => True
  | .slice b _ _ _ => D b
  | .sliceU b _ _ _ => D b
  | .nilslice => True
  | .map m => D m
  | .nilmap => True
  | .func fn a b => goodFn D fn ∧ goods D a ∧ goods D b
  | .nilFunc => True
  | .iface _ v => good D v
  | .nilIface => True
  | .agg cs => goods D cs
  | .tuple vs => goods D vs
def goods (D : Nat → Prop) : List AV → Prop
  | [] => True
  | v :: l => good D v ∧ goods D l
end
theorem goods_iff (D : Nat → Prop) (l : List AV) : goods D l ↔ ∀ v ∈ l, good D v := by
  induction l with
  | nil => simp [goods]
  | cons v l ih => simp [goods, ih]

mutual
theorem conc_congr {φ ψ : Phi} {D : Nat → Prop} (h : ∀ b, D b → φ b = ψ b) : ∀ v, good D v → conc φ v = conc ψ v
  | .bool _, _ => rfl
  | .int _ _, _ => rfl
  | .str _, _ => rfl
  | .ptr b o, g => by simp only [conc, h b g]
  | .nilptr, _ => rfl
  | .slice b o l c, g => by simp only [conc, h b g]
  | .sliceU b o l c, g => by simp only [conc, h b g]
  | .nilslice, _ => rfl
  | .map m, g => by simp only [conc, h m g]
  | .nilmap, _ => rfl
  | .func fn a b, g => by
    obtain ⟨g1, g2, g3⟩ := g
    have e : cFn φ fn = cFn ψ fn := by
      cases fn <;> simp only [cFn]
      rw [h _ g1]
    simp only [conc, e, concs_congr h a g2, concs_congr h b g3]
  | .nilFunc, _ => rfl
  | .iface t v, g => by simp only [conc, conc_congr h v g]
  | .nilIface, _ => rfl
  | .agg cs, g => by simp only [conc, concs_congr h cs g]
  | .tuple vs, g => by simp only [conc, concs_congr h vs g]
theorem concs_congr {φ ψ : Phi} {D : Nat → Prop} (h : ∀ b, D b → φ b = ψ b) : ∀ l, goods D l → concs φ l = concs ψ l
  | [], _ => rfl
  | v :: l, g => by simp only [concs, conc_congr h v g.1, concs_congr h l g.2]
end
mutual
theorem good_mono {D E : Nat → Prop} (h : ∀ b, D b → E b) : ∀ v, good D v → good E v
  | .bool _, _ => trivial
  | .int _ _, _ => trivial
  | .str _, g => g
  | .ptr b _, g => h b g
  | .nilptr, _ => trivial
  | .slice b _ _ _, g => h b g
  | .sliceU b _ _ _, g => h b g
  | .nilslice, _ => trivial
  | .map m, g => h m g
  | .nilmap, _ => trivial
  | .func fn a b, g => ⟨by cases fn <;> first | exact h _ g.1 | exact g.1, goods_mono h a g.2.1, goods_mono h b g.2.2⟩
  | .nilFunc, _ => trivial
  | .iface _ v, g => good_mono h v g
  | .nilIface, _ => trivial
  | .agg cs, g => goods_mono h cs g
  | .tuple vs, g => goods_mono h vs g
theorem goods_mono {D E : Nat → Prop} (h : ∀ b, D b → E b) : ∀ l, goods D l → goods E l
  | [], _ => trivial
  | v :: l, g => ⟨good_mono h v g.1, goods_mono h l g.2⟩
end
end Go.AE

namespace Go.AE
open Go.RowKit (Below)

/-! ### The relations -/
def tget (tmps : Array Value) (t : Nat) : Option Value := tmps[t]?
/-- the temporaries that are kept (lv) -/
structure TRel (φ : Phi) (D : Nat → Prop) (n lv : Nat) (T : Tr AV) (tmps : Array Value) : Prop where
  size : tmps.size = n
  val : ∀ t v, bit lv t = true → T.get t = some v → tmps[t]? = some (conc φ v) ∧ good D v
/-- a function whose results can be read -/
def FnOk (C : Cfg) (fn lv : Nat) : Prop := ∃ f, C.P.funcs[fn]? = some f ∧ resOk lv f.results.toList = true
/-- what may be left to do when a round ends -/
def jumpOk (c : Code) : Prop := c = .ret ∨ ∃ id, c = .exit id

def cTarget (φ : Phi) : ATarget → Target
  | .fn fn captured => .fn (cFn φ fn) (concs φ captured).toArray
  | .collected r => .collected (φ r).blk
def cDef (φ : Phi) (d : ADef) : Deferred := ⟨cTarget φ d.target, (concs φ d.args).toArray⟩
def goodTarget (D : Nat → Prop) : ATarget → Prop
  | .fn fn captured => goodFn D fn ∧ goods D captured
  | .collected r => D r
def goodDef (D : Nat → Prop) (d : ADef) : Prop := goodTarget D d.target ∧ goods D d.args

def StRel (st : St) (n : Nat) (pl : Pl) (sz lo hi ty : Nat) : Prop := match st with
  | .own => lo = hi
  | .marked => lo = hi ∨ sz ≤ lo
  | .grow g => ((lo = hi ∨ sz ≤ lo) ∧ ty = g.ty) ∧ n ≤ pl.room ∧ pl.sh + pl.room ≤ sz
  | .stale => True ∧ n ≤ pl.room ∧ pl.sh + pl.room ≤ sz
  | .typed t => lo = hi ∧ ty = t ∧ pl.sh = 0
theorem StRel.free {st : St} {n : Nat} {pl : Pl} {sz lo hi ty : Nat} (h : StRel st n pl sz lo hi ty) (hns : st ≠ .stale) : hi ≤ lo ∨ sz ≤ lo := by
  cases st with
  | own => exact .inl (Nat.le_of_eq h.symm)
  | marked => exact h.imp (fun e => Nat.le_of_eq e.symm) id
  | grow _ => exact h.1.1.imp (fun e => Nat.le_of_eq e.symm) id
  | typed t => exact .inl (Nat.le_of_eq h.1.symm)
  | stale => exact absurd rfl hns
def entryOf (φ : Phi) (e : AV × AV × Nat) : MapEntry := ⟨conc φ e.1, conc φ e.2.1, e.2.2⟩

def ORel (C : Cfg) (φ : Phi) (D : Nat → Prop) (o : AObj) (pl : Pl) (w : World) : Prop := match o with
  | .cells c n st => ∃ arr ty lo hi, w.heap[pl.blk]? = some (.cells arr ty (lo, hi)) ∧ StRel st n pl arr.size lo hi ty ∧ pl.sh + n ≤ arr.size ∧
      ∀ i v, c.get i = some v → arr[pl.sh + i]? = some (conc φ v) ∧ good D v
  | .map es clock => ∃ arr, w.heap[pl.blk]? = some (.map arr clock) ∧ arr.toList = es.map (entryOf φ) ∧ ∀ e ∈ es, good D e.1 ∧ good D e.2.1
  | .look es => ∃ (arr : Array MapEntry) (clock : Nat) (es' : List (AV × AV × Nat)), w.heap[pl.blk]? = some (.map arr clock) ∧ arr.toList = es'.map (entryOf φ) ∧ (es'.map fun e => (e.1, e.2.1)).Perm es ∧ ∀ e ∈ es', good D e.1 ∧ good D e.2.1
  | .sit s pos => pl.sh = 0 ∧ w.heap[pl.blk]? = some (.stringIter (bytesOf s) pos) ∧ ∀ x ∈ s, x < 256
  | .mit m since seen st => pl.sh = 0 ∧ w.heap[pl.blk]? = some (.mapIter (m.map fun b => (φ b).blk) since seen.toArray st) ∧ ∀ b, m = some b → D b
  | .mitN m since n bs st cur => pl.sh = 0 ∧ D m ∧ ∃ seen : List Nat, w.heap[pl.blk]? = some (.mapIter (some (φ m).blk) since seen.toArray st) ∧ (bs.filter fun b => !seen.contains b).length ≤ n ∧ ∀ b, cur = some b → lastN seen = some b
  | .loop state pending fn n lv T params assign body df => ∃ tmps, w.heap[pl.blk]? = some (.loop ⟨state, pending, fn, tmps, params.toArray, assign, body, (φ df).blk⟩) ∧ TRel φ D n lv T tmps ∧ D df ∧
      codeOk C lv assign = true ∧ codeOk C lv body = true ∧ (∀ c, pending = some c → jumpOk c) ∧ FnOk C fn lv
  | .deferred calls => w.heap[pl.blk]? = some (.deferred (calls.map fun l => l.map (cDef φ))) ∧ ∀ l, calls = some l → ∀ d ∈ l, goodDef D d

/-- two numbers may stand for one block only as versions of one growing slice -/
def Share (o o' : AObj) (b b' : Nat) : Prop :=
  (∃ c n c' n', o = .cells c n .stale ∧ o' = .cells c' n' .stale) ∨
  (∃ c n l c' n', o = .cells c n (.grow l) ∧ o' = .cells c' n' .stale ∧ b' ∈ l.l ∧ n' ≤ n) ∨
  (∃ c n l c' n', o' = .cells c' n' (.grow l) ∧ o = .cells c n .stale ∧ b ∈ l.l ∧ n ≤ n')
/-- the elder versions of a growing slice are known numbers -/
def OldsIn (C : Cfg) (D : Nat → Prop) (o : AObj) : Prop := (∀ c n l, o = .cells c n (.grow l) → ∀ x ∈ l.l, D x ∧ C.n0 ≤ x) ∧ ∀ c n st, o = .cells c n st → ∀ i v, c.get i = some v → i < n
structure HRel (C : Cfg) (φ : Phi) (D : Nat → Prop) (S : Tr AObj) (nx B : Nat) (w : World) : Prop where
  n0 : C.n0 ≤ nx
  lt : ∀ b, D b → b < nx
  olt : ∀ b o, hget C S b = some o → b < nx
  obj : ∀ b o, hget C S b = some o → D b → ORel C φ D o (φ b) w
  sep : ∀ b b' o o', hget C S b = some o → hget C S b' = some o' → D b → D b' → b ≠ b' → C.n0 ≤ b → (φ b).blk = (φ b').blk → Share o o' b b' ∧ (φ b).sh = (φ b').sh
  base : ∀ b o, C.n0 ≤ b → hget C S b = some o → D b → B ≤ (φ b).blk
  olds : ∀ b o, hget C S b = some o → D b → OldsIn C D o

/-- operands -/
def Ev (φ : Phi) (D : Nat → Prop) (ρ : Operand → Value) (ρ' : Operand → Option AV) (l : List Operand) : Prop :=
  ∀ x ∈ l, ∀ v, ρ' x = some v → ρ x = conc φ v ∧ good D v

section
variable {C : Cfg} {φ : Phi} {D : Nat → Prop} {S : Tr AObj} {nx B : Nat} {w : World}

/-! ### Constants -/
theorem bytesOf_toNat (s : ByteArray) : bytesOf (s.data.toList.map (·.toNat)) = s := by
  unfold bytesOf
  rw [List.map_map]
  have : (UInt8.ofNat ∘ fun x : UInt8 => x.toNat) = id := by funext x; simp
  rw [this]
  simp
theorem mapOpt_spec {α β : Type} (f : α → Option β) : ∀ (l : List α) (r : List β), mapOpt f l = some r → r.length = l.length ∧ ∀ (i : Nat) (a : α), l[i]? = some a → ∃ b, r[i]? = some b ∧ f a = some b := by
  intro l
  induction l with
  | nil => intro r h; simp [mapOpt] at h; subst h; simp
  | cons a l ih =>
    intro r h
    simp only [mapOpt] at h
    cases hf : f a with
    | none => simp [hf] at h
    | some b =>
      simp only [hf] at h
      cases hr : mapOpt f l with
      | none => simp [hr] at h
      | some r' =>
        simp only [hr, Option.some.injEq] at h
        subst h
        obtain ⟨h1, h2⟩ := ih _ hr
        refine ⟨by simp [h1], fun i x hx => ?_⟩
        cases i with
        | zero => simp at hx; subst hx; exact ⟨b, by simp, hf⟩
        | succ i => simp at hx; obtain ⟨y, hy, hy'⟩ := h2 i x hx; exact ⟨y, by simpa using hy, hy'⟩
theorem ofVn_sound (φ : Phi) (D : Nat → Prop) : ∀ (n : Nat) (v : Value) (a : AV), ofVn n v = some a → v = conc φ a ∧ good D a := by
  intro n
  induction n with
  | zero => intro v a h; simp [ofVn] at h
  | succ n ih =>
    have list : ∀ (l : List Value) (r : List AV), mapOpt (ofVn n) l = some r → l = concs φ r ∧ goods D r := by
      intro l r h
      obtain ⟨h1, h2⟩ := mapOpt_spec _ l r h
      constructor
      · rw [concs_eq]
        apply List.ext_getElem?
        intro i
        rw [List.getElem?_map]
        cases hx : l[i]? with
        | none =>
          have : l.length ≤ i := by simpa using hx
          rw [List.getElem?_eq_none (by omega)]; rfl
        | some x =>
          obtain ⟨b, hb, hb'⟩ := h2 i x hx
          rw [hb, (ih _ _ hb').1]; rfl
      · rw [goods_iff]
        intro v hv
        obtain ⟨i, hi⟩ := List.mem_iff_getElem?.1 hv
        have hlt : i < l.length := by
          have := (List.getElem?_eq_some_iff.1 hi).1; omega
        obtain ⟨b, hb, hb'⟩ := h2 i l[i] (List.getElem?_eq_getElem hlt)
        rw [hi] at hb; simp at hb; subst hb
        exact (ih _ _ hb').2
    intro v a h
    unfold ofVn at h
    split at h <;> (try (simp at h; subst h; simp [conc, good, cFn, concs, goodFn, goods]; done))
    · simp at h; subst h
      refine ⟨by simp only [conc]; rw [bytesOf_toNat], ?_⟩
      simp only [good]
      intro x hx
      obtain ⟨y, _, rfl⟩ := List.mem_map.1 hx
      exact y.toNat_lt
    · rename_i t v
      split at h
      · rename_i a' ha
        simp at h; subst h
        obtain ⟨e, g⟩ := ih _ _ ha
        exact ⟨by simp only [conc, e], g⟩
      · simp at h
    · rename_i cs
      split at h
      · rename_i l hl
        simp at h; subst h
        obtain ⟨e, g⟩ := list _ _ hl
        exact ⟨by simp only [conc]; rw [← e], g⟩
      · simp at h
    · rename_i cs
      split at h
      · rename_i l hl
        simp at h; subst h
        obtain ⟨e, g⟩ := list _ _ hl
        exact ⟨by simp only [conc]; rw [← e], g⟩
      · simp at h
    · simp at h
theorem ofV_sound {v : Value} {a : AV} (h : ofV v = some a) : v = conc φ a ∧ good D a := ofVn_sound φ D _ _ _ h

/-! ### Reading memory -/
theorem add_at (b o i : Nat) : (⟨b, o, none⟩ : Addr).add i = ⟨b, o + i, none⟩ := by unfold Addr.add; split <;> simp_all
theorem cellsOf_rel (hr : HRel C φ D S nx B w) {b : Nat} (hb : D b) {c : Tr AV} (h : cellsOf C S b = some c) :
    ∃ arr ty lo hi, w.heap[(φ b).blk]? = some (.cells arr ty (lo, hi)) ∧ ∀ i v, c.get i = some v → arr[(φ b).sh + i]? = some (conc φ v) ∧ good D v := by
  unfold cellsOf at h
  split at h
  · rename_i c' n st ho
    simp at h; subst h
    obtain ⟨arr, ty, lo, hi, h1, _, _, h4⟩ := hr.obj b _ ho hb
    exact ⟨arr, ty, lo, hi, h1, h4⟩
  · simp at h
theorem cell_of (hr : HRel C φ D S nx B w) {b : Nat} (hb : D b) {c : Tr AV} (h : cellsOf C S b = some c) {o : Nat} {v : AV} (hg : c.get o = some v) :
    w.cell? ⟨(φ b).blk, (φ b).sh + o, none⟩ = some (conc φ v) ∧ good D v := by
  obtain ⟨arr, ty, lo, hi, h1, h4⟩ := cellsOf_rel hr hb h
  obtain ⟨h5, h6⟩ := h4 o v hg
  exact ⟨by simp [World.cell?, h1, h5], h6⟩
theorem cells_of (hr : HRel C φ D S nx B w) {b : Nat} (hb : D b) {c : Tr AV} (h : cellsOf C S b = some c) {o n : Nat} {l : List AV} (hg : c.getN o n = some l) :
    (loadCells ⟨(φ b).blk, (φ b).sh + o, none⟩ n).run C.P w = .ok (concs φ l).toArray w ∧ goods D l := by
  obtain ⟨h1, h2⟩ := Tr.getN_spec _ _ _ _ hg
  have key : ∀ i v, l[i]? = some v → w.cell? ⟨(φ b).blk, (φ b).sh + o + i, none⟩ = some (conc φ v) ∧ good D v := by
    intro i v hi
    have hlt : i < n := by have := (List.getElem?_eq_some_iff.1 hi).1; omega
    have := cell_of hr hb h (o := o + i) (v := v) (by rw [h2 i hlt, hi])
    rwa [← Nat.add_assoc] at this
  constructor
  · have hl := run_loadCells_list (P := C.P) w ⟨(φ b).blk, (φ b).sh + o, none⟩ (concs φ l) (fun j v hv => by
      rw [add_at]
      rw [concs_eq, List.getElem?_map] at hv
      cases hx : l[j]? with
      | none => simp [hx] at hv
      | some a => simp [hx] at hv; subst hv; exact (key j a hx).1)
    have hlen : (concs φ l).length = n := by rw [concs_eq, List.length_map, h1]
    rw [hlen] at hl
    exact hl
  · rw [goods_iff]
    intro v hv
    obtain ⟨i, hi⟩ := List.mem_iff_getElem?.1 hv
    exact (key i v hi).2

theorem underlying_info {P : Program} {t : Nat} {d : TypeDesc} (h : P.underlying t = some d) : ∃ i, P.info? t = some i := by
  unfold Program.underlying at h
  cases hi : P.info? t with
  | none => simp [hi] at h
  | some i => exact ⟨i, rfl⟩
theorem szOf_some {t n : Nat} (h : szOf C t = some n) : ∃ i, C.P.info? t = some i ∧ i.size = n := by
  unfold szOf at h
  cases hi : C.P.info? t with
  | none => simp [hi] at h
  | some i => simp [hi] at h; exact ⟨i, rfl, h⟩
theorem run_szOf {t n : Nat} (h : szOf C t = some n) (w : World) : (sizeOf t).run C.P w = .ok n w := by
  obtain ⟨i, hi, rfl⟩ := szOf_some h
  simp [sizeOf, typeInfo, hi]
theorem run_zeroOf {t : Nat} {z : AV} (h : zeroOf C t = some z) (φ : Phi) (D : Nat → Prop) (w : World) : (zeroValue t).run C.P w = .ok (conc φ z) w ∧ good D z := by
  unfold zeroOf at h
  cases hi : C.P.info? t with
  | none => simp [hi] at h
  | some i =>
    simp only [hi] at h
    cases hz : i.zero with
    | none => simp [hz] at h
    | some v =>
      simp only [hz] at h
      obtain ⟨e, g⟩ := ofV_sound (φ := φ) (D := D) h
      exact ⟨by simp [zeroValue, typeInfo, hi, hz, e], g⟩
theorem run_isAggT {t : Nat} {b : Bool} (h : isAggT C t = some b) (w : World) : (isAgg t).run C.P w = .ok b w := by
  unfold isAggT at h
  cases hu : C.P.underlying t with
  | none => simp [hu] at h
  | some d =>
    simp only [hu] at h
    cases d <;> simp at h <;> subst h <;> simp [isAgg, run_underlying hu]
end
end Go.AE

namespace Go.AE
open Go.RowKit (Below)
section
variable {C : Cfg} {φ : Phi} {D : Nat → Prop} {S : Tr AObj} {nx B : Nat} {w : World}

theorem evx_of {wr : List (Nat × Nat)} {x : Operand} {cx : CX} (h : toCX wr x = some cx) (V : List (Nat × AV)) (T : Tr AV) : evx cx V T = evo wr V T x := by
  cases x with
  | tmp t =>
    simp only [toCX] at h
    cases ha : assocN wr t with
    | none => simp [ha] at h; subst h; simp [evx, evo, ha]
    | some j => simp [ha] at h; subst h; simp [evx, evo, ha]
  | const v =>
    simp only [toCX] at h
    cases hv : ofV v with
    | none => simp [hv] at h
    | some a => simp [hv] at h; subst h; simp [evx, evo, hv]
  | global g => simp [toCX] at h; subst h; rfl
  | func f => simp [toCX] at h; subst h; rfl
theorem evxs_of {wr : List (Nat × Nat)} (V : List (Nat × AV)) (T : Tr AV) : ∀ {l : List Operand} {cs : List CX} {vs : List AV}, toCXs wr l = some cs → evxs V T cs = some vs →
    vs.length = l.length ∧ ∀ (i : Nat) x, l[i]? = some x → ∃ v, vs[i]? = some v ∧ evo wr V T x = some v := by
  intro l
  induction l with
  | nil => intro cs vs h1 h2; simp [toCXs] at h1; subst h1; simp [evxs] at h2; subst h2; simp
  | cons x l ih =>
    intro cs vs h1 h2
    simp only [toCXs] at h1
    cases hx : toCX wr x with
    | none => simp [hx] at h1
    | some cx =>
      cases hl : toCXs wr l with
      | none => simp [hx, hl] at h1
      | some cl =>
        simp [hx, hl] at h1; subst h1
        simp only [evxs] at h2
        cases hv : evx cx V T with
        | none => simp [hv] at h2
        | some v =>
          cases hr : evxs V T cl with
          | none => simp [hv, hr] at h2
          | some r =>
            simp [hv, hr] at h2; subst h2
            obtain ⟨a, b⟩ := ih hl hr
            refine ⟨by simp [a], fun i y hy => ?_⟩
            cases i with
            | zero => simp at hy; subst hy; exact ⟨v, by simp, by rw [← evx_of hx]; exact hv⟩
            | succ i => simp at hy; simpa using b i y hy
theorem evalAll_of {ρ : Operand → Option AV} : ∀ {l : List Operand} {vs : List AV}, evalAll ρ l = some vs →
    vs.length = l.length ∧ ∀ (i : Nat) x, l[i]? = some x → ∃ v, vs[i]? = some v ∧ ρ x = some v := by
  intro l
  induction l with
  | nil => intro vs h; simp [evalAll] at h; subst h; simp
  | cons x l ih =>
    intro vs h
    simp only [evalAll] at h
    cases hx : ρ x with
    | none => simp [hx] at h
    | some v =>
      cases hl : evalAll ρ l with
      | none => simp [hx, hl] at h
      | some r =>
        simp [hx, hl] at h; subst h
        obtain ⟨a, b⟩ := ih hl
        refine ⟨by simp [a], fun i y hy => ?_⟩
        cases i with
        | zero => simp at hy; subst hy; exact ⟨v, by simp, hx⟩
        | succ i => simp at hy; simpa using b i y hy
/-- the operands' values in the model -/
theorem map_of {ρ : Operand → Value} {ρ' : Operand → Option AV} {l : List Operand} {vs : List AV} (hρ : Ev φ D ρ ρ' l) (h1 : vs.length = l.length)
    (h2 : ∀ (i : Nat) x, l[i]? = some x → ∃ v, vs[i]? = some v ∧ ρ' x = some v) : l.map ρ = concs φ vs ∧ goods D vs := by
  constructor
  · rw [concs_eq]
    apply List.ext_getElem?
    intro i
    rw [List.getElem?_map, List.getElem?_map]
    cases hx : l[i]? with
    | none =>
      have : l.length ≤ i := by simpa using hx
      rw [List.getElem?_eq_none (by omega)]; rfl
    | some x =>
      obtain ⟨v, hv, he⟩ := h2 i x hx
      rw [hv]
      simp [(hρ x (List.mem_of_getElem? hx) v he).1]
  · rw [goods_iff]
    intro v hv
    obtain ⟨i, hi⟩ := List.mem_iff_getElem?.1 hv
    have hlt : i < l.length := by have := (List.getElem?_eq_some_iff.1 hi).1; omega
    obtain ⟨u, hu, he⟩ := h2 i l[i] (List.getElem?_eq_getElem hlt)
    rw [hi] at hu; simp at hu; subst hu
    exact (hρ _ (List.getElem_mem hlt) v he).2
theorem args_of {ρ : Operand → Value} {ρ' : Operand → Option AV} {a : Array Operand} {vs : List AV} (hρ : Ev φ D ρ ρ' a.toList) (h : evalAll ρ' a.toList = some vs) :
    a.map ρ = (concs φ vs).toArray ∧ goods D vs := by
  obtain ⟨h1, h2⟩ := evalAll_of h
  obtain ⟨h3, h4⟩ := map_of hρ h1 h2
  refine ⟨?_, h4⟩
  apply Array.ext'
  simp [h3]

/-! ### Integers -/
theorem wrapF_eq (k : IntKind) (n : Int) : wrapF k n = k.wrap n := by
  cases k <;> simp only [wrapF] <;> try rfl
  simp only [cnd_ite, IntKind.wrap, IntKind.bits, IntKind.signed, decide_eq_true_eq, Bool.true_and, ge_iff_le]
  have e1 : ((2 : Int) ^ 64) = 18446744073709551616 := by decide
  have e2 : ((2 : Int) ^ (64 - 1)) = 9223372036854775808 := by decide
  rw [e1, e2]
  by_cases h : n % 18446744073709551616 < 9223372036854775808
  · rw [if_pos h, if_neg (by simpa using h)]
  · rw [if_neg h, if_pos (by simpa using h)]
@[simp] theorem intW_eq (k : IntKind) (n : Int) : intW k n = some (.int k (k.wrap n)) := by simp [intW, wrapF_eq]
@[simp] theorem intR_eq (k : IntKind) (n : Int) : intR k n = some (.int k n) := by simp [intR]
@[simp] theorem boolR_eq (b : Bool) : boolR b = some (.bool b) := by cases b <;> rfl
@[simp] theorem cnd_none' {α : Type _} (c : Bool) (a : Option α) (v : α) : cnd c none a = some v ↔ c = false ∧ a = some v := by cases c <;> simp
theorem ofNat_eq (a b : Nat) : (Int.ofNat a = Int.ofNat b) ↔ a = b := ⟨fun h => by cases h; rfl, fun h => by rw [h]⟩
@[simp] theorem intEq_eq (x y : Int) : intEq x y = decide (x = y) := by
  rw [Bool.eq_iff_iff, decide_eq_true_eq]
  cases x <;> cases y
  · exact ⟨fun h => by rw [Nat.eq_of_beq_eq_true h], fun h => by cases h; exact Nat.beq_refl _⟩
  · exact ⟨(fun h => by cases h), (fun h => by cases h)⟩
  · exact ⟨(fun h => by cases h), (fun h => by cases h)⟩
  · exact ⟨fun h => by rw [Nat.eq_of_beq_eq_true h], fun h => by cases h; exact Nat.beq_refl _⟩
@[simp] theorem intLt_eq (x y : Int) : intLt x y = decide (x < y) := by
  rw [Bool.eq_iff_iff, decide_eq_true_eq]
  cases x with
  | ofNat a => cases y with
    | ofNat b => show Nat.blt a b = true ↔ (a : Int) < (b : Int); simp [Nat.blt]; omega
    | negSucc b => show false = true ↔ (a : Int) < Int.negSucc b; simp; omega
  | negSucc a => cases y with
    | ofNat b => show true = true ↔ Int.negSucc a < (b : Int); simp; omega
    | negSucc b => show Nat.blt b a = true ↔ Int.negSucc a < Int.negSucc b; simp [Nat.blt]; omega
@[simp] theorem kindEq_eq (k k' : IntKind) : kindEq k k' = decide (k = k') := by cases k <;> cases k' <;> rfl
@[simp] theorem boolEq_eq (a b : Bool) : boolEq a b = (a == b) := by cases a <;> cases b <;> rfl

theorem aInt_sound {op : BinOp} {k : IntKind} {x y : Int} {v : AV} (t : TypeId) (h : aInt op k x y = some v) (hs : isShift op = false) :
    (binOp op t (.int k x) (.int k y)).run C.P w = .ok (conc φ v) w ∧ good D v := by
  cases op <;> simp [aInt, isShift, binOp, Op.intArith, Op.intDiv, Op.intBits, Op.intCmp] at h hs ⊢ <;>
    first
    | (subst h; simp [conc, good]; done)
    | (obtain ⟨h1, h⟩ := h; subst h; simp [conc, good, h1]; done)
    | (subst h; exact ⟨rfl, trivial⟩)
    | (subst h; refine ⟨?_, trivial⟩; simp only [conc]; congr 1; rw [Bool.eq_iff_iff]; simp; done)
theorem aShift_sound {op : BinOp} {k k' : IntKind} {x y : Int} {v : AV} (t : TypeId) (h : aShift op k x y = some v) :
    (binOp op t (.int k x) (.int k' y)).run C.P w = .ok (conc φ v) w ∧ good D v := by
  unfold aShift at h
  simp only [intLt_eq, cnd_none', decide_eq_false_iff_not] at h
  obtain ⟨h1, h⟩ := h
  cases op <;> simp [binOp, Op.shift, h1] at h ⊢
  all_goals (subst h; simp [conc, good])
theorem aIBin_sound {op : BinOp} {x y v : AV} (t : TypeId) (h : aIBin op x y = some v) :
    (binOp op t (conc φ x) (conc φ y)).run C.P w = .ok (conc φ v) w ∧ good D v ∧ ∃ k a k' b, x = .int k a ∧ y = .int k' b := by
  unfold aIBin at h
  split at h
  · rename_i k a k' b
    simp only [conc]
    by_cases hs : isShift op = true
    · simp only [hs, cnd_true] at h
      obtain ⟨e1, e2⟩ := aShift_sound (C := C) (φ := φ) (D := D) (w := w) (k' := k') t h
      exact ⟨e1, e2, _, _, _, _, rfl, rfl⟩
    · have hs : isShift op = false := by simpa using hs
      simp only [hs, cnd_false, kindEq_eq, cnd_none, decide_eq_true_eq] at h
      obtain ⟨rfl, h⟩ := h
      obtain ⟨e1, e2⟩ := aInt_sound (C := C) (φ := φ) (D := D) (w := w) t h hs
      exact ⟨e1, e2, _, _, _, _, rfl, rfl⟩
  · simp at h

/-! ### The frequent operations -/
/-- what an operation of the model answers -/
def Ans (φ : Phi) (D : Nat → Prop) (P : Program) (w : World) (s : Sem Next) (v : AV) : Prop := s.run P w = .ok (.value (conc φ v)) w ∧ good D v
theorem ans_of {P : Program} {s : Sem Value} {v : AV} (h : s.run P w = .ok (conc φ v) w ∧ good D v) : Ans φ D P w (do pure (.value (← s))) v := by
  refine ⟨?_, h.2⟩
  simp [h.1]

theorem aLd1_sound (hr : HRel C φ D S nx B w) {t : TypeId} (ht : isAggT C t = some false) {a v : AV} (ha : good D a) (h : aLd1 C S a = some v) :
    (Instr.loadAt t (conc φ a)).run C.P w = .ok (conc φ v) w ∧ good D v := by
  unfold aLd1 at h
  split at h
  · rename_i b o
    split at h
    · rename_i c hc
      obtain ⟨h1, h2⟩ := cell_of hr ha hc h
      refine ⟨?_, h2⟩
      simp [Instr.loadAt, Instr.sureAddr, conc, loadVar, run_isAggT ht, h1]
    · simp at h
  · simp at h
theorem aLdN_sound (hr : HRel C φ D S nx B w) {t : TypeId} {n : Nat} (ht : isAggT C t = some true) (hs : szOf C t = some n) {a v : AV} (ha : good D a) (h : aLdN C S n a = some v) :
    (Instr.loadAt t (conc φ a)).run C.P w = .ok (conc φ v) w ∧ good D v := by
  unfold aLdN at h
  split at h
  · rename_i b o
    split at h
    · rename_i c hc
      split at h
      · rename_i l hl
        simp at h; subst h
        obtain ⟨h1, h2⟩ := cells_of hr ha hc hl
        refine ⟨?_, h2⟩
        simp [Instr.loadAt, Instr.sureAddr, conc, loadVar, run_isAggT ht, run_szOf hs, h1]
      · simp at h
    · simp at h
  · simp at h
theorem aLoad_sound (hr : HRel C φ D S nx B w) {t : TypeId} {a v : AV} (ha : good D a) (h : aLoad C S t a = some v) :
    (Instr.loadAt t (conc φ a)).run C.P w = .ok (conc φ v) w ∧ good D v := by
  unfold aLoad at h
  split at h
  · rename_i s h1 h2; exact aLdN_sound hr h1 h2 ha h
  · rename_i h1; exact aLd1_sound hr h1 ha h
  · simp at h

theorem blt_lt {a b : Nat} (h : Nat.blt a b = true) : a < b := by simp [Nat.blt] at h; omega
theorem ble_le {a b : Nat} (h : Nat.ble a b = true) : a ≤ b := by simpa using h
theorem natOf_some {v : AV} {n : Nat} (h : natOf v = some n) : ∃ k, v = .int k (Int.ofNat n) := by
  unfold natOf at h
  split at h
  · rename_i k z
    split at h
    · simp at h; subst h; exact ⟨k, rfl⟩
    · simp at h
  · simp at h

theorem fieldAt_sound {s : TypeId} {fields : Array Field} {f z : Nat} {fd : Field} (hu : C.P.underlying s = some (.struct fields)) (hf : fields.toList[f]? = some fd)
    (hz : szOf C fd.type = some z) (hz0 : z ≠ 0) {a v : AV} (ha : good D a) (h : xOff fd.offset a = some v) :
    (Instr.fieldAt s (conc φ a) f).run C.P w = .ok (conc φ v) w ∧ good D v := by
  unfold xOff at h
  split at h
  · rename_i b o
    simp at h; subst h
    have hf' : fields[f]? = some fd := by rw [← hf]; simp
    refine ⟨?_, ha⟩
    simp [Instr.fieldAt, run_underlying hu, hf', Instr.sureAddr, conc, fieldPlace, run_szOf hz, hz0, add_at, Nat.add_assoc]
  · simp at h
theorem ixA_sound {t : TypeId} {n sz i : Nat} {elem : TypeId} (hu : C.P.underlying t = some (.array n elem)) (hz : szOf C elem = some sz)
    {a v : AV} {k : IntKind} (ha : good D a) (h : xIxA n sz a i = some v) :
    (Instr.indexAt t (conc φ a) (.int k (Int.ofNat i))).run C.P w = .ok (conc φ v) w ∧ good D v := by
  unfold xIxA at h
  split at h
  · rename_i b o
    simp only [cnd_none, Option.some.injEq] at h
    obtain ⟨h1, rfl⟩ := h
    have hlt : i < n := blt_lt h1
    refine ⟨?_, ha⟩
    simp [Instr.indexAt, asIntOf, run_underlying hu, Instr.sureAddr, conc, run_szOf hz, hlt, add_at, Nat.add_assoc]
  · simp at h
theorem ixS_sound {t : TypeId} {sz i : Nat} {elem : TypeId} (hu : C.P.underlying t = some (.slice elem)) (hz : szOf C elem = some sz)
    {a v : AV} {k : IntKind} (ha : good D a) (h : xIxS sz a i = some v) :
    (Instr.indexAt t (conc φ a) (.int k (Int.ofNat i))).run C.P w = .ok (conc φ v) w ∧ good D v := by
  unfold xIxS at h
  split at h
  · rename_i b o n _
    simp only [cnd_none, Option.some.injEq] at h
    obtain ⟨h1, rfl⟩ := h
    have hlt : i < n := blt_lt h1
    refine ⟨?_, ha⟩
    simp [Instr.indexAt, asIntOf, run_underlying hu, conc, run_szOf hz, hlt, add_at, Nat.add_assoc]
  · rename_i b o n _
    simp only [cnd_none, Option.some.injEq] at h
    obtain ⟨h1, rfl⟩ := h
    have hlt : i < n := blt_lt h1
    refine ⟨?_, ha⟩
    simp [Instr.indexAt, asIntOf, run_underlying hu, conc, run_szOf hz, hlt, add_at, Nat.add_assoc]
  · simp at h

theorem xNil_sound {a v : AV} (ha : good D a) (h : xNil a = some v) : v = a ∧ (∀ oper : Oper, ∀ ρ : Operand → Value, ∀ x, oper.op = .nilCheck x → ρ x = conc φ a → (execOp ρ oper).run C.P w = .ok (.value (conc φ v)) w) := by
  unfold xNil at h
  split at h
  · simp at h; subst h
    refine ⟨rfl, fun oper ρ x ho hx => ?_⟩
    simp [execOp, ho, hx, conc]
  · split at h
    · simp at h; subst h
      refine ⟨rfl, fun oper ρ x ho hx => ?_⟩
      simp [execOp, ho, hx, conc, cFn]
    · simp at h; subst h
      refine ⟨rfl, fun oper ρ x ho hx => ?_⟩
      simp [execOp, ho, hx, conc, cFn]
    · simp at h
  · simp at h; subst h
    refine ⟨rfl, fun oper ρ x ho hx => ?_⟩
    simp [execOp, ho, hx, conc]
  · simp at h
theorem xExt_sound {i : Nat} {a v : AV} (ha : good D a) (h : xExt i a = some v) : (Instr.extract (conc φ a) i).run C.P w = .ok (conc φ v) w ∧ good D v := by
  unfold xExt at h
  split at h
  · rename_i vs
    rw [nth_eq] at h
    refine ⟨?_, (goods_iff D vs).1 ha v (List.mem_of_getElem? h)⟩
    simp [Instr.extract, conc, concs_eq, h]
  · simp at h

/-! ### The rarer operations that only read -/
theorem evalParts_of {ρ : Operand → Value} {ρ' : Operand → Option AV} : ∀ {l : List (Nat × Operand)} {ps : List (Nat × AV)}, Ev φ D ρ ρ' (l.map (·.2)) → evalParts ρ' l = some ps →
    l.map (fun x => (x.1, ρ x.2)) = ps.map (fun x => (x.1, conc φ x.2)) ∧ ∀ x ∈ ps, good D x.2 := by
  intro l
  induction l with
  | nil => intro ps _ h; simp [evalParts] at h; subst h; simp
  | cons a l ih =>
    intro ps hρ h
    obtain ⟨i, x⟩ := a
    simp only [evalParts] at h
    cases hx : ρ' x with
    | none => simp [hx] at h
    | some v =>
      cases hl : evalParts ρ' l with
      | none => simp [hx, hl] at h
      | some r =>
        simp [hx, hl] at h; subst h
        obtain ⟨a, b⟩ := ih (fun y hy => hρ y (by simp at hy ⊢; exact .inr hy)) hl
        obtain ⟨c, d⟩ := hρ x (by simp) v hx
        refine ⟨by simp [a, c], fun y hy => ?_⟩
        cases hy with
        | head => exact d
        | tail _ hy => exact b y hy
theorem cells_conc (φ : Phi) (v : AV) : (conc φ v).cells = (concs φ v.cells).toArray := by
  cases v <;> simp [conc, Value.cells, AV.cells, concs]
theorem cells_good {v : AV} (h : good D v) : goods D v.cells := by
  cases v with
  | agg cs => exact h
  | _ => exact ⟨h, trivial⟩
theorem setMany_len : ∀ (vs cs : List AV) (o : Nat), (setMany cs o vs).length = cs.length := by
  intro vs
  induction vs with
  | nil => intro cs o; rfl
  | cons v vs ih => intro cs o; simp [setMany, ih]
theorem foldl_zipIdx (φ : Phi) : ∀ (vs : List AV) (cs : List AV) (off k : Nat),
    ((concs φ vs).zipIdx k).foldl (fun (cs : Array Value) (x : Value × Nat) => cs.setIfInBounds (off + x.2) x.1) (concs φ cs).toArray = (concs φ (setMany cs (off + k) vs)).toArray := by
  intro vs
  induction vs with
  | nil => intro cs off k; rfl
  | cons v vs ih =>
    intro cs off k
    simp only [concs, List.zipIdx_cons, List.foldl_cons, setMany]
    have : (concs φ cs).toArray.setIfInBounds (off + k) (conc φ v) = (concs φ (cs.set (off + k) v)).toArray := by
      apply Array.ext'
      simp [concs_eq, List.map_set]
    rw [this, ih]
    rfl
theorem goods_set {cs : List AV} {i : Nat} {v : AV} (h : goods D cs) (hv : good D v) : goods D (cs.set i v) := by
  rw [goods_iff] at h ⊢
  intro x hx
  rcases List.mem_or_eq_of_mem_set hx with h' | h'
  · exact h x h'
  · rw [h']; exact hv
theorem goods_setMany : ∀ (vs cs : List AV) (o : Nat), goods D cs → goods D vs → goods D (setMany cs o vs) := by
  intro vs
  induction vs with
  | nil => intro cs o h _; exact h
  | cons v vs ih => intro cs o h hv; exact ih _ _ (goods_set h hv.1) hv.2
theorem fillL_sound {place place' : Nat → Option (Nat × Nat)} (hp : ∀ i x, place i = some x → place' i = some x) : ∀ (ps : List (Nat × AV)) (cs r : List AV), goods D cs → (∀ x ∈ ps, good D x.2) →
    fillL place cs ps = some r → Instr.fill place' (concs φ cs).toArray (ps.map fun x => (x.1, conc φ x.2)) = some (concs φ r).toArray ∧ goods D r := by
  intro ps
  induction ps with
  | nil => intro cs r h _ hf; simp [fillL] at hf; subst hf; exact ⟨rfl, h⟩
  | cons p ps ih =>
    intro cs r h hg hf
    obtain ⟨i, v⟩ := p
    simp only [fillL] at hf
    cases hpl : place i with
    | none => simp [hpl] at hf
    | some x =>
      obtain ⟨off, size⟩ := x
      simp only [hpl, cnd_none, Bool.and_eq_true] at hf
      obtain ⟨⟨h1, h2⟩, hf⟩ := hf
      have h1 : v.cells.length = size := Nat.eq_of_beq_eq_true h1
      have h2 : off + size ≤ cs.length := ble_le h2
      have hgv : good D v := hg (i, v) (by simp)
      obtain ⟨a, b⟩ := ih (setMany cs off v.cells) r (goods_setMany _ _ _ h (cells_good hgv)) (fun x hx => hg x (by simp [hx])) hf
      refine ⟨?_, b⟩
      simp only [List.map_cons, Instr.fill, hp _ _ hpl, cells_conc]
      have hlen : (concs φ v.cells).length = size := by rw [concs_eq, List.length_map, h1]
      have hlen2 : (concs φ cs).length = cs.length := by rw [concs_eq, List.length_map]
      rw [if_neg]
      · rw [← a]
        congr 1
        have := foldl_zipIdx φ v.cells cs off 0
        simp
        simpa using this
      · simp [hlen, hlen2]; omega

theorem run_mapM_pure {α β : Type} (P : Program) (w : World) (f : α → Sem β) (g : α → β) : ∀ (l : List α), (∀ a ∈ l, (f a).run P w = .ok (g a) w) → (l.mapM f).run P w = .ok (l.map g) w := by
  intro l
  induction l with
  | nil => intro _; simp
  | cons a l ih => intro h; simp [List.mapM_cons, h a (by simp), ih (fun b hb => h b (by simp [hb]))]
theorem structPlace_some {fields : List Field} {i : Nat} {x : Nat × Nat} (h : structPlace C fields i = some x) : ∃ f s, fields[i]? = some f ∧ szOf C f.type = some s ∧ x = (f.offset, s) := by
  unfold structPlace at h
  rw [nth_eq] at h
  split at h
  · rename_i f hf
    split at h
    · rename_i s hs
      simp at h
      exact ⟨f, s, hf, hs, h.symm⟩
    · simp at h
  · simp at h
theorem aPart_sound {t : TypeId} {cs : List AV} {off : Nat} {v : AV} (hg : goods D cs) (h : aPart C t cs off = some v) :
    (part t (concs φ cs).toArray off).run C.P w = .ok (conc φ v) w ∧ good D v := by
  unfold aPart at h
  split at h
  · rename_i s h1 h2
    simp at h; subst h
    constructor
    · simp only [part, Sem.run_bind, run_isAggT h1, Result.andThen_ok, if_true, run_szOf h2, Sem.run_pure, conc, concs_eq]
      congr 2
      apply Array.ext'
      simp [List.map_take, List.map_drop, List.take_drop]
    · simp only [good]
      rw [goods_iff] at hg ⊢
      exact fun x hx => hg x (List.mem_of_mem_drop (List.mem_of_mem_take hx))
  · rename_i h1
    rw [nth_eq] at h
    constructor
    · simp [part, run_isAggT h1, concs_eq, h]
    · exact (goods_iff D cs).1 hg v (List.mem_of_getElem? h)
  · simp at h

theorem aIndex_sound {t : TypeId} {x i v : AV} (hx : good D x) (h : aIndex C t x i = some v) : (Instr.index t (conc φ x) (conc φ i)).run C.P w = .ok (conc φ v) w ∧ good D v := by
  unfold aIndex at h
  split at h
  · simp at h
  · rename_i n hn
    obtain ⟨k, rfl⟩ := natOf_some hn
    split at h
    · rename_i m elem cs hu
      split at h
      · rename_i sz hz
        simp only [cnd_none] at h
        obtain ⟨h1, h2⟩ := h
        have hlt := blt_lt h1
        obtain ⟨h3, h4⟩ := aPart_sound (φ := φ) (w := w) hx h2
        refine ⟨?_, h4⟩
        simp [Instr.index, asIntOf, conc, run_underlying hu, hlt, run_szOf hz, h3]
      · simp at h
    · rename_i s hu
      rw [nth_eq] at h
      split at h
      · rename_i c hc
        simp at h; subst h
        refine ⟨?_, trivial⟩
        have hb : (bytesOf s)[n]? = some (UInt8.ofNat c) := by
          show (bytesOf s).data[n]? = _
          simp [bytesOf, hc]
        have hlt : c < 256 := hx c (List.mem_of_getElem? hc)
        simp [Instr.index, asIntOf, conc, run_underlying hu, hb, Nat.mod_eq_of_lt hlt]
      · simp at h
    · simp at h

theorem aUn_sound {op : UnOp} {x v : AV} (h : aUn op x = some v) : (Op.unary op (conc φ x)).run C.P w = .ok (conc φ v) w ∧ good D v := by
  unfold aUn at h
  split at h
  · rename_i k n
    simp [aInt] at h; subst h
    exact ⟨by simp [Op.unary, Op.intArith, conc], trivial⟩
  · rename_i k n
    simp [aInt] at h; subst h
    exact ⟨rfl, trivial⟩
  · simp at h; subst h; exact ⟨rfl, trivial⟩
  · simp at h

theorem okFields_some : ∀ {l : List Field}, okFields C l = true → ∀ f ∈ l, ∃ s, szOf C f.type = some s := by
  intro l
  induction l with
  | nil => intro _ f hf; simp at hf
  | cons a l ih =>
    intro h f hf
    simp only [okFields, Bool.and_eq_true] at h
    cases hf with
    | head => cases hs : szOf C a.type with
      | none => simp [hs] at h
      | some s => exact ⟨s, rfl⟩
    | tail _ hf => exact ih h.2 f hf
theorem aBuild_sound {t : TypeId} {ps : List (Nat × AV)} {v : AV} (hg : ∀ x ∈ ps, good D x.2) (h : aBuild C t ps = some v) :
    (Instr.build t ((ps.map fun x => (x.1, conc φ x.2)).toArray)).run C.P w = .ok (conc φ v) w ∧ good D v := by
  unfold aBuild at h
  split at h
  · simp at h
  · rename_i z hz
    obtain ⟨hz1, hz2⟩ := run_zeroOf hz φ D w
    split at h
    · rename_i fields hu
      simp only [cnd_none] at h
      obtain ⟨hok, h⟩ := h
      split at h
      · rename_i cs hcs
        simp at h; subst h
        have hm : (fields.mapM fun f => do pure (f.offset, ← sizeOf f.type) : Sem (Array (Nat × Nat))).run C.P w = .ok (fields.toList.map fun f => (f.offset, (szOf C f.type).getD 0)).toArray w := by
          rw [Array.mapM_eq_mapM_toList, Sem.run_map, run_mapM_pure C.P w _ (fun f : Field => (f.offset, (szOf C f.type).getD 0)) _ (fun f hf => by
            obtain ⟨s, hs⟩ := okFields_some hok f hf
            simp [run_szOf hs, hs])]
          rfl
        obtain ⟨a, b⟩ := fillL_sound (φ := φ) (place' := fun i => ((fields.toList.map fun f => (f.offset, (szOf C f.type).getD 0)).toArray)[i]?) (fun i x hx => by
            obtain ⟨f, s, h1, h2, rfl⟩ := structPlace_some hx
            simp at h1
            simp [h1, h2]) ps z.cells cs (cells_good hz2) hg hcs
        refine ⟨?_, b⟩
        simp only [Instr.build, Sem.run_bind, hz1, Result.andThen_ok, run_underlying hu, hm, cells_conc, a, conc, Sem.run_pure]
      · simp at h
    · rename_i n elem hu
      split at h
      · rename_i s hs
        split at h
        · rename_i cs hcs
          simp at h; subst h
          obtain ⟨a, b⟩ := fillL_sound (φ := φ) (place' := fun i => some (i * s, s)) (fun _ _ h => h) ps z.cells cs (cells_good hz2) hg hcs
          refine ⟨?_, b⟩
          simp [Instr.build, hz1, run_underlying hu, run_szOf hs, cells_conc, a, conc]
        · simp at h
      · simp at h
    · simp at h
end
end Go.AE

namespace Go.AE
open Go.RowKit (Below)
section
variable {C : Cfg} {φ : Phi} {D : Nat → Prop} {S : Tr AObj} {nx B : Nat} {w : World}

theorem ofNat8_inj {a b : Nat} (ha : a < 256) (hb : b < 256) (h : UInt8.ofNat a = UInt8.ofNat b) : a = b := by
  have := congrArg UInt8.toNat h
  simp at this
  omega
theorem natsEq_iff : ∀ (x y : List Nat), natsEq x y = true ↔ x = y
  | [], [] => by simp [natsEq]
  | [], _ :: _ => by simp [natsEq]
  | _ :: _, [] => by simp [natsEq]
  | a :: x, b :: y => by
    simp only [natsEq, Bool.and_eq_true, natsEq_iff x y, List.cons.injEq]
    exact ⟨fun ⟨h, e⟩ => ⟨Nat.eq_of_beq_eq_true h, e⟩, fun ⟨h, e⟩ => ⟨by rw [h]; exact Nat.beq_refl _, e⟩⟩
theorem map8_inj : ∀ {x y : List Nat}, (∀ a ∈ x, a < 256) → (∀ a ∈ y, a < 256) → x.map UInt8.ofNat = y.map UInt8.ofNat → x = y := by
  intro x
  induction x with
  | nil => intro y _ _ h; cases y with
    | nil => rfl
    | cons b y => simp at h
  | cons a x ih =>
    intro y hx hy h
    cases y with
    | nil => simp at h
    | cons b y =>
      simp only [List.map_cons, List.cons.injEq] at h
      rw [ofNat8_inj (hx a (by simp)) (hy b (by simp)) h.1, ih (fun c hc => hx c (by simp [hc])) (fun c hc => hy c (by simp [hc])) h.2]
theorem bytesOf_toList (s : List Nat) : (bytesOf s).toList = s.map UInt8.ofNat := by
  rw [ByteArray.toList_eq]; simp [bytesOf]
theorem str_eq {x y : List Nat} (hx : ∀ a ∈ x, a < 256) (hy : ∀ a ∈ y, a < 256) : ((bytesOf x).toList == (bytesOf y).toList) = natsEq x y := by
  rw [Bool.eq_iff_iff, natsEq_iff, beq_iff_eq, bytesOf_toList, bytesOf_toList]
  exact ⟨map8_inj hx hy, fun h => by rw [h]⟩
theorem str_lt : ∀ {x y : List Nat}, (∀ a ∈ x, a < 256) → (∀ a ∈ y, a < 256) → Op.bytesLess (x.map UInt8.ofNat) (y.map UInt8.ofNat) = natsLt x y
  | [], [], _, _ => rfl
  | [], _ :: _, _, _ => rfl
  | _ :: _, [], _, _ => rfl
  | a :: x, b :: y, hx, hy => by
    have ha := hx a (by simp)
    have hb := hy b (by simp)
    have ih := str_lt (fun c hc => hx c (List.mem_cons_of_mem _ hc)) (fun c hc => hy c (List.mem_cons_of_mem _ hc))
    simp only [List.map_cons, Op.bytesLess, natsLt, ih]
    have e1 : decide (UInt8.ofNat a < UInt8.ofNat b) = Nat.blt a b := by
      rw [Bool.eq_iff_iff, decide_eq_true_eq, UInt8.lt_iff_toNat_lt]
      simp [Nat.blt, Nat.mod_eq_of_lt ha, Nat.mod_eq_of_lt hb]; omega
    have e2 : (UInt8.ofNat a == UInt8.ofNat b) = Nat.beq a b := by
      rw [Bool.eq_iff_iff, beq_iff_eq]
      exact ⟨fun h => by rw [ofNat8_inj ha hb h]; exact Nat.beq_refl _, fun h => by rw [Nat.eq_of_beq_eq_true h]⟩
    rw [e1, e2]

theorem ptr_of (hr : HRel C φ D S nx B w) {b o : Nat} (hb : D b) (h : liveAt C S b o = true) :
    ∃ c n st arr ty lo hi, hget C S b = some (.cells c n st) ∧ o < n ∧ w.heap[(φ b).blk]? = some (.cells arr ty (lo, hi)) ∧ StRel st n (φ b) arr.size lo hi ty ∧ (φ b).sh + n ≤ arr.size ∧ st ≠ .stale := by
  unfold liveAt at h
  split at h
  · simp at h
  · rename_i c n st hns ho
    obtain ⟨arr, ty, lo, hi, h1, h2, h3, _⟩ := hr.obj b _ ho hb
    exact ⟨c, n, st, arr, ty, lo, hi, ho, blt_lt (by simpa using h), h1, h2, h3, fun e => (by subst e; first | exact hns _ ho | exact hns _ rfl | exact hns rfl | exact hns ho | simp_all)⟩
  · simp at h
theorem own_live {b o : Nat} (h : ownAt C S b o = true) : liveAt C S b o = true ∧ C.n0 ≤ b ∧ ∃ c n, hget C S b = some (.cells c n .own) := by
  unfold ownAt at h
  unfold liveAt
  split at h
  · rename_i c n ho
    simp only [ho, Bool.and_eq_true] at h ⊢
    exact ⟨h.2, ble_le h.1, c, n, rfl⟩
  · simp at h

theorem run_shape_cells {r : Nat} {arr : Array Value} {ty : TypeId} {f : Nat × Nat} (h : w.heap[r]? = some (.cells arr ty f)) : w.shape? r = some (ty, arr.size) := by
  simp [World.shape?, h]
/-- two places in blocks that are not one -/
theorem sameAddr_other {P : Program} {p q : Nat} {x y : Nat} {a1 a2 : Array Value} {t1 t2 : TypeId} {l1 h1 l2 h2 : Nat} (hne : p ≠ q)
    (e1 : w.heap[p]? = some (.cells a1 t1 (l1, h1))) (e2 : w.heap[q]? = some (.cells a2 t2 (l2, h2))) (f1 : h1 ≤ l1) (x1 : x < a1.size) (x2 : y < a2.size) (f2 : h2 ≤ l2 ∨ a2.size ≤ l2) :
    (sameAddr ⟨p, x, none⟩ ⟨q, y, none⟩).run P w = .ok false w ∧ (sameAddr ⟨q, y, none⟩ ⟨p, x, none⟩).run P w = .ok false w := by
  have g1 : w.frozen? ⟨p, x, none⟩ = false := by simp [World.frozen?, e1]; omega
  have g2 : w.frozen? ⟨q, y, none⟩ = false := by simp [World.frozen?, e2]; omega
  have g3 : w.frozen? ⟨p, a1.size, none⟩ = false := by simp [World.frozen?, e1]; omega
  have s1 := run_shape_cells e1
  have s2 := run_shape_cells e2
  have z1 : a1.size ≠ 0 := by omega
  have z2 : a2.size ≠ 0 := by omega
  have hne' : q ≠ p := fun e => hne e.symm
  constructor
  · simp [sameAddr, hne, g1, g2, g3, noView, viewAt, s1, s2, mayBeOne, stringish, z2]
  · simp [sameAddr, hne', g1, g2, g3, noView, viewAt, s1, s2, mayBeOne, stringish, z1, z2]
theorem ptrEq_sound (hr : HRel C φ D S nx B w) {b o b' o' : Nat} {r : Bool} (hb : D b) (hb' : D b') (h : ptrEq C S b o b' o' = some r) :
    (sameAddr ⟨(φ b).blk, (φ b).sh + o, none⟩ ⟨(φ b').blk, (φ b').sh + o', none⟩).run C.P w = .ok r w := by
  unfold ptrEq at h
  rw [cnd_beq] at h
  split at h
  · rename_i e
    subst e
    simp at h; subst h
    simp only [sameAddr, beq_self_eq_true, if_true, Sem.run_pure]
    congr 1
    rw [Bool.eq_iff_iff, beq_iff_eq]
    constructor
    · intro h; simp at h; rw [h]; exact Nat.beq_refl _
    · intro h; rw [Nat.eq_of_beq_eq_true h]
  · rename_i hne
    simp only [cnd_none, Bool.or_eq_true, Bool.and_eq_true, Option.some.injEq] at h
    obtain ⟨h, rfl⟩ := h
    rcases h with ⟨h1, h2⟩ | ⟨h1, h2⟩
    · obtain ⟨h3, h4, c, n, h5⟩ := own_live h1
      obtain ⟨c1, n1, st1, a1, t1, l1, u1, e1, x1, y1, z1, k1, _⟩ := ptr_of hr hb h3
      obtain ⟨c2, n2, st2, a2, t2, l2, u2, e2, x2, y2, z2, k2, ns2⟩ := ptr_of hr hb' h2
      have hst : st1 = .own := by rw [h5] at e1; cases e1; rfl
      subst hst
      have hblk : (φ b).blk ≠ (φ b').blk := by
        intro e
        rcases (hr.sep b b' _ _ e1 e2 hb hb' hne h4 e).1 with ⟨_, _, _, _, q, _⟩ | ⟨_, _, _, _, _, q, _⟩ | ⟨_, _, _, _, _, _, q, _⟩ <;> cases q
      exact (sameAddr_other hblk y1 y2 (Nat.le_of_eq z1.symm) (by omega) (by omega) (z2.free ns2)).1
    · obtain ⟨h3, h4, c, n, h5⟩ := own_live h1
      obtain ⟨c1, n1, st1, a1, t1, l1, u1, e1, x1, y1, z1, k1, _⟩ := ptr_of hr hb' h3
      obtain ⟨c2, n2, st2, a2, t2, l2, u2, e2, x2, y2, z2, k2, ns2⟩ := ptr_of hr hb h2
      have hst : st1 = .own := by rw [h5] at e1; cases e1; rfl
      subst hst
      have hblk : (φ b').blk ≠ (φ b).blk := by
        intro e
        rcases (hr.sep b' b _ _ e1 e2 hb' hb (fun q => hne q.symm) h4 e).1 with ⟨_, _, _, _, q, _⟩ | ⟨_, _, _, _, _, q, _⟩ | ⟨_, _, _, _, _, _, q, _⟩ <;> cases q
      exact (sameAddr_other hblk y1 y2 (Nat.le_of_eq z1.symm) (by omega) (by omega) (z2.free ns2)).2

theorem aEqFields_sound {eq : Nat → AV → AV → Option Bool} {d : Nat} (heq : ∀ t x y r, good D x → good D y → eq t x y = some r → (Op.equalIn d t (conc φ x) (conc φ y)).run C.P w = .ok r w) :
    ∀ (fs : List Field) (xs ys : List AV) (r : Bool), goods D xs → goods D ys → aEqFields C eq fs xs ys = some r → (Op.eqFields d (concs φ xs).toArray (concs φ ys).toArray fs).run C.P w = .ok r w := by
  intro fs
  induction fs with
  | nil => intro xs ys r _ _ h; simp [aEqFields] at h; subst h; simp [Op.eqFields]
  | cons f fs ih =>
    intro xs ys r hx hy h
    simp only [aEqFields, cnd_none', beq_eq_false_iff_ne] at h
    obtain ⟨hn, h⟩ := h
    split at h
    · rename_i a b ha hb
      obtain ⟨a1, a2⟩ := aPart_sound (φ := φ) (w := w) hx ha
      obtain ⟨b1, b2⟩ := aPart_sound (φ := φ) (w := w) hy hb
      split at h
      · rename_i e
        simp only [Op.eqFields, hn, ne_eq, not_false_eq_true, if_true, Sem.run_bind, a1, b1, heq _ _ _ _ a2 b2 e, Result.andThen_ok, Bool.not_true, Bool.false_eq_true, if_false]
        exact ih xs ys r hx hy h
      · rename_i e
        simp at h; subst h
        simp only [Op.eqFields, hn, ne_eq, not_false_eq_true, if_true, Sem.run_bind, a1, b1, heq _ _ _ _ a2 b2 e, Result.andThen_ok, Bool.not_false, Sem.run_pure]
      · simp at h
    · simp at h

theorem aEqItems_sound {eq : Nat → AV → AV → Option Bool} {d : Nat} (heq : ∀ t x y r, good D x → good D y → eq t x y = some r → (Op.equalIn d t (conc φ x) (conc φ y)).run C.P w = .ok r w) {e s : Nat} {xs ys : List AV} (gx : goods D xs) (gy : goods D ys) :
    ∀ (n i : Nat) (r : Bool), aEqItems C eq e s xs ys i n = some r → (Op.eqItems d e s (concs φ xs).toArray (concs φ ys).toArray (List.range' i n)).run C.P w = .ok r w := by
  intro n
  induction n with
  | zero => intro i r h; simp [aEqItems] at h; subst h; simp [Op.eqItems]
  | succ n ih =>
    intro i r h
    simp only [aEqItems] at h
    rw [List.range'_succ]
    split at h
    · rename_i a b ha hb
      obtain ⟨a1, a2⟩ := aPart_sound (φ := φ) (w := w) gx ha
      obtain ⟨b1, b2⟩ := aPart_sound (φ := φ) (w := w) gy hb
      split at h
      · rename_i e'
        simp only [Op.eqItems, Sem.run_bind, a1, b1, heq _ _ _ _ a2 b2 e', Result.andThen_ok, Bool.not_true, Bool.false_eq_true, if_false]
        exact ih (i + 1) r h
      · rename_i e'
        simp at h; subst h
        simp only [Op.eqItems, Sem.run_bind, a1, b1, heq _ _ _ _ a2 b2 e', Result.andThen_ok, Bool.not_false, if_true, Sem.run_pure]
      · simp at h
    · simp at h
set_option maxHeartbeats 2000000 in
theorem aEq_sound (hr : HRel C φ D S nx B w) : ∀ (d d' : Nat) (t : Nat) (x y : AV) (r : Bool), d ≤ d' → good D x → good D y → aEq C S d t x y = some r →
    (Op.equalIn d' t (conc φ x) (conc φ y)).run C.P w = .ok r w := by
  intro d
  induction d with
  | zero => intro d' t x y r _ _ _ h; simp [aEq] at h
  | succ d ih =>
    intro d' t x y r hd gx gy h
    obtain ⟨d', rfl⟩ : ∃ e, d' = e + 1 := ⟨d' - 1, by omega⟩
    unfold aEq at h
    split at h
    · rename_i hu; simp at h; subst h; simp [Op.equalIn, run_underlying hu, conc]
    · rename_i hu; simp at h; obtain ⟨rfl, rfl⟩ := h; simp [Op.equalIn, run_underlying hu, conc]; rfl
    · rename_i a b hu
      simp at h; subst h
      rw [conc, conc, run_equalIn_string w d' t _ _ hu, str_eq gx gy]
    · rename_i hu; simp at h; subst h; simp [Op.equalIn, run_underlying hu, conc]
    · rename_i hu; simp at h; subst h; simp [Op.equalIn, run_underlying hu, conc]
    · rename_i hu; simp at h; subst h; simp [Op.equalIn, run_underlying hu, conc]
    · rename_i e b o b' o' hu
      split at h
      · rename_i s hs
        rw [cnd_beq] at h
        split at h
        · simp at h
        · rename_i hs0
          have := ptrEq_sound hr gx gy h
          simp [Op.equalIn, run_underlying hu, conc, run_szOf hs, hs0, this]
      · simp at h
    · rename_i hu; simp at h; subst h; simp [Op.equalIn, run_underlying hu, conc]
    · rename_i hu; simp at h; subst h; simp [Op.equalIn, run_underlying hu, conc]
    · rename_i hu; simp at h; subst h; simp [Op.equalIn, run_underlying hu, conc]
    · rename_i tx vx ty vy hu
      rw [cnd_beq] at h
      split at h
      · rename_i e
        subst e
        split at h
        · rename_i i hi
          simp only [cnd_none] at h
          obtain ⟨hc, h⟩ := h
          have := ih d' tx vx vy r (by omega) gx gy h
          simp [Op.equalIn, run_underlying hu, conc, typeInfo, hi, hc, this]
        · simp at h
      · rename_i e
        simp at h; subst h
        simp [Op.equalIn, run_underlying hu, conc, e]
    all_goals first
      | (rename_i hu; simp at h; subst h; simp [Op.equalIn, run_underlying hu, conc]; done)
      | skip
    · rename_i fields xs ys hu
      simp only [cnd_none'] at h
      obtain ⟨hp, h⟩ := h
      have hf : C.P.fieldsOf t = fields := by simp [Program.fieldsOf, hu]
      rw [conc, conc, run_equalIn_struct w d' t _ _ (by rw [hf]; exact hu) hp, hf]
      exact aEqFields_sound (fun t x y r gx gy h => ih d' t x y r (by omega) gx gy h) _ _ _ _ gx gy h
    · rename_i n e xs ys hu
      split at h
      · rename_i s hs
        obtain ⟨i, hi, rfl⟩ : ∃ i, C.P.info? e = some i ∧ s = C.P.cellsOf e := by
          unfold szOf at hs
          cases hq : C.P.info? e with
          | none => rw [hq] at hs; cases hs
          | some i => rw [hq] at hs; cases hs; exact ⟨i, rfl, by simp [Program.cellsOf, hq]⟩
        rw [conc, conc, run_equalIn_array w d' _ _ hu hi, List.range_eq_range']
        exact aEqItems_sound (fun t x y r gx gy h => ih d' t x y r (by omega) gx gy h) gx gy _ _ _ h
      · simp at h
    · simp at h
end
end Go.AE

namespace Go.AE
open Go.RowKit (Below)
section
variable {C : Cfg} {φ : Phi} {D : Nat → Prop} {S : Tr AObj} {nx B : Nat} {w : World}

theorem binOp_eql {t : TypeId} {X Y : Value} (h1 : ∀ k a k' b, ¬ (X = .int k a ∧ Y = .int k' b)) (h2 : ∀ a b, ¬ (X = .string a ∧ Y = .string b))
    (h3 : ∀ k a, X ≠ .float k a) (h4 : ∀ k a b, X ≠ .complex k a b) : binOp .eql t X Y = (do pure (.bool (← Op.equal t X Y))) ∧ binOp .neq t X Y = (do pure (.bool (!(← Op.equal t X Y)))) := by
  constructor
  · unfold binOp
    split
    all_goals first
      | rfl
      | exact absurd ⟨rfl, rfl⟩ (h1 _ _ _ _)
      | exact absurd ⟨rfl, rfl⟩ (h2 _ _)
      | exact absurd rfl (h3 _ _)
      | exact absurd rfl (h4 _ _ _)
      | simp_all
  · unfold binOp
    split
    all_goals first
      | rfl
      | exact absurd ⟨rfl, rfl⟩ (h1 _ _ _ _)
      | exact absurd ⟨rfl, rfl⟩ (h2 _ _)
      | exact absurd rfl (h3 _ _)
      | exact absurd rfl (h4 _ _ _)
      | simp_all
theorem conc_float (φ : Phi) (v : AV) : (∀ k a, conc φ v ≠ .float k a) ∧ ∀ k a b, conc φ v ≠ .complex k a b := by
  cases v <;> simp [conc]

theorem eqGuardIn_any {m : Nat} {t : TypeId} {ms : Array (String × TypeId)} (hu : C.P.underlying t = some (.interface ms)) (he : ms.isEmpty = true) : (Op.eqGuardIn (m + 1) t .nilIface .nilIface).run C.P w = .ok false w := by
  simp [Op.eqGuardIn, run_underlying hu, he]
theorem eqGuard_const {op : BinOp} {t : TypeId} {x y : Operand} {X Y : Value} (h : (isConstO x || isConstO y) = true) (h2 : ∀ c d, ¬ (X = .agg c ∧ Y = .agg d)) :
    (eqGuard op t x y X Y).run C.P w = .ok () w := by
  cases op <;> first | rfl | (cases x <;> cases y <;> first | (simp [isConstO] at h; done) | (cases X <;> cases Y <;> first | rfl | exact absurd ⟨rfl, rfl⟩ (h2 _ _)))
theorem eqGuard_iface {op : BinOp} {t : TypeId} {x y : Operand} {ms : Array (String × TypeId)} (hu : C.P.underlying t = some (.interface ms)) (he : ms.isEmpty = true) :
    (eqGuard op t x y .nilIface .nilIface).run C.P w = .ok () w := by
  have key := eqGuardIn_any (C := C) (w := w) (m := 9999) hu he
  have h1 : Op.maxDepth = 9999 + 1 := rfl
  cases op <;> first | rfl | (cases x <;> cases y <;> first | rfl | (simp [eqGuard, h1, key]; done))
theorem eqGuard_nil {op : BinOp} {t : TypeId} {x y : Operand} (h : (isConstO x || isConstO y || (match C.P.underlying t with | some (.interface ms) => ms.isEmpty | _ => false)) = true) :
    (eqGuard op t x y .nilIface .nilIface).run C.P w = .ok () w := by
  by_cases hc : (isConstO x || isConstO y) = true
  · exact eqGuard_const hc (by simp)
  · have hc : (isConstO x || isConstO y) = false := by simpa using hc
    rw [hc, Bool.false_or] at h
    split at h
    · rename_i ms hu
      exact eqGuard_iface hu h
    · simp at h
theorem eqGuard_plain {op : BinOp} {t : TypeId} {x y : Operand} {X Y : Value} (h1 : ¬ (X = .nilIface ∧ Y = .nilIface)) (h2 : ∀ c d, ¬ (X = .agg c ∧ Y = .agg d)) :
    (eqGuard op t x y X Y).run C.P w = .ok () w := by
  cases op <;> first | rfl | (cases X <;> cases Y <;> first | rfl | exact absurd ⟨rfl, rfl⟩ h1 | exact absurd ⟨rfl, rfl⟩ (h2 _ _))
theorem eqGuard_sound {op : BinOp} {t : TypeId} {x y : Operand} {a b : AV} (h : eqOk C t (isConstO x || isConstO y) a b = true) :
    (eqGuard op t x y (conc φ a) (conc φ b)).run C.P w = .ok () w := by
  unfold eqOk at h
  split at h
  · exact eqGuard_nil h
  · simp only [conc]
    exact run_eqGuard_agg w op t x y _ _ (by simpa using h)
  · rename_i n1 n2
    refine eqGuard_plain ?_ ?_
    · rintro ⟨h1, h2⟩
      cases a <;> simp [conc] at h1
      cases b <;> simp [conc] at h2
      exact n1 rfl rfl
    · rintro c d ⟨h1, h2⟩
      cases a <;> simp [conc] at h1
      cases b <;> simp [conc] at h2
      exact n2 _ _ rfl rfl

theorem aStr_sound {op : BinOp} {x y : List Nat} {v : AV} (hx : ∀ a ∈ x, a < 256) (hy : ∀ a ∈ y, a < 256) (h : aStr op x y = some v) :
    (Op.stringOp op (bytesOf x) (bytesOf y)).run C.P w = .ok (conc φ v) w ∧ good D v := by
  have e1 := str_eq hx hy
  have e2 : Op.bytesLess (bytesOf x).toList (bytesOf y).toList = natsLt x y := by rw [bytesOf_toList, bytesOf_toList]; exact str_lt hx hy
  cases op <;> simp only [aStr, boolR_eq, cnd_none, Option.some.injEq] at h <;>
    first
    | (obtain ⟨h1, rfl⟩ := h
       constructor
       · have hs : (bytesOf x).size = x.length := by simp [bytesOf, ByteArray.size]
         have hs' : (bytesOf y).size = y.length := by simp [bytesOf, ByteArray.size]
         have hle := ble_le h1
         simp only [Op.stringOp, hs, hs']
         rw [if_neg (by simp [IntKind.max, IntKind.signed, IntKind.bits]; omega)]
         simp only [Sem.run_pure, conc]
         congr 2
         apply ByteArray.ext
         simp [bytesOf]
       · simp only [good]
         intro z hz
         rcases List.mem_append.1 hz with h | h
         · exact hx z h
         · exact hy z h)
    | (subst h; exact ⟨by simp only [Op.stringOp, e1, e2, Sem.run_pure, conc], trivial⟩)
    | (simp at h)

theorem lBin_sound (hr : HRel C φ D S nx B w) {op : BinOp} {t : Nat} {x y : Operand} {ρ : Operand → Value} {ρ' : Operand → Option AV} {v : AV} (hρ : Ev φ D ρ ρ' [x, y])
    (h : lBin C op t x y S ρ' = some v) : (do eqGuard op t x y (ρ x) (ρ y); binOp op t (ρ x) (ρ y) : Sem Value).run C.P w = .ok (conc φ v) w ∧ good D v := by
  unfold lBin at h
  split at h
  · rename_i a b ha hb
    obtain ⟨ea, ga⟩ := hρ x (by simp) a ha
    obtain ⟨eb, gb⟩ := hρ y (by simp) b hb
    rw [ea, eb]
    unfold aBin at h
    split at h
    · rename_i k i k' j
      obtain ⟨h1, h2, _⟩ := aIBin_sound (C := C) (φ := φ) (D := D) (w := w) t h
      refine ⟨?_, h2⟩
      rw [Sem.run_bind, eqGuard_sound (by simp [eqOk])]
      exact h1
    · rename_i s s'
      obtain ⟨h1, h2⟩ := aStr_sound (C := C) (φ := φ) (D := D) (w := w) ga gb h
      refine ⟨?_, h2⟩
      rw [Sem.run_bind, eqGuard_sound (by simp [eqOk])]
      simp only [Result.andThen_ok, conc, binOp]
      exact h1
    · rename_i ni ns
      simp only [cnd_none] at h
      obtain ⟨hok, h⟩ := h
      have hq : ∀ r, aEq C S 50 t a b = some r → (Op.equal t (conc φ a) (conc φ b)).run C.P w = .ok r w := fun r hr' => aEq_sound hr 50 _ t a b r (by decide) ga gb hr'
      have hb1 : ∀ k z k' z', ¬ (conc φ a = .int k z ∧ conc φ b = .int k' z') := by
        intro k z k' z' ⟨h1, h2⟩
        cases a <;> simp [conc] at h1
        cases b <;> simp [conc] at h2
        exact ni _ _ _ _ rfl rfl
      have hb2 : ∀ z z', ¬ (conc φ a = .string z ∧ conc φ b = .string z') := by
        intro z z' ⟨h1, h2⟩
        cases a <;> simp [conc] at h1
        cases b <;> simp [conc] at h2
        exact ns _ _ rfl rfl
      obtain ⟨q1, q2⟩ := binOp_eql (t := t) hb1 hb2 (conc_float φ a).1 (conc_float φ a).2
      rw [Sem.run_bind, eqGuard_sound hok]
      split at h
      · split at h
        · rename_i r hr'
          simp at h; subst h
          exact ⟨by simp [q1, hq r hr', conc], trivial⟩
        · simp at h
      · split at h
        · rename_i r hr'
          simp at h; subst h
          exact ⟨by simp [q2, hq r hr', conc], trivial⟩
        · simp at h
      · simp at h
  · simp at h
end
end Go.AE

namespace Go.AE
open Go.RowKit (Below)
section
variable {C : Cfg} {φ : Phi} {D : Nat → Prop} {S : Tr AObj} {nx B : Nat} {w : World}

/-! ### Conversions -/
theorem aConv_sound {s d : Nat} {x v : AV} (hx : good D x) (h : aConv C s d x = some v) : (convert s d (conc φ x)).run C.P w = .ok (conc φ v) w ∧ good D v := by
  unfold aConv at h
  split at h
  · rename_i us k kk n hus hud
    simp at h; subst h
    simp [convert, run_underlying hus, run_underlying hud, Conv.intToInt, conc, good]
  · rename_i us s hus hud
    simp at h; subst h
    refine ⟨?_, hx⟩
    simp [convert, run_underlying hus, run_underlying hud, conc]
  · simp at h
theorem bytesOfCells_ints : ∀ {l : List AV} {s : List Nat}, bytesOfCells l = some s → ∃ ns : List Nat, l = ns.map (fun n => AV.int .u8 (Int.ofNat n)) ∧ s = ns.map (· % 256) := by
  intro l
  induction l with
  | nil => intro s h; simp [bytesOfCells] at h; subst h; exact ⟨[], rfl, rfl⟩
  | cons a l ih =>
    intro s h
    unfold bytesOfCells at h
    split at h
    · rename_i hh; simp at hh
    · rename_i n l' heq
      simp only [List.cons.injEq] at heq
      obtain ⟨rfl, rfl⟩ := heq
      split at h
      · rename_i r hr
        simp at h; subst h
        obtain ⟨ns, h1, h2⟩ := ih hr
        exact ⟨n :: ns, by simp [h1], by simp [h2]⟩
      · simp at h
    · simp at h
theorem foldl_push (ns : List Nat) : ∀ r : ByteArray, (ns.map Int.ofNat).foldl (fun r (n : Int) => r.push (UInt8.ofNat n.toNat)) r = ⟨r.data ++ (ns.map UInt8.ofNat).toArray⟩ := by
  induction ns with
  | nil => intro r; simp
  | cons n ns ih =>
    intro r
    simp only [List.map_cons, List.foldl_cons, ih]
    congr 1
    apply Array.ext'
    simp [ByteArray.push]
theorem cellsAt_of (hr : HRel C φ D S nx B w) {b o n : Nat} {l : List AV} (hb : D b) (h : cellsAt C S b o n = some l) :
    (loadCells ⟨(φ b).blk, (φ b).sh + o, none⟩ n).run C.P w = .ok (concs φ l).toArray w ∧ goods D l := by
  unfold cellsAt at h
  split at h
  · rename_i c hc; exact cells_of hr hb hc h
  · simp only [cnd_none, Option.some.injEq] at h
    obtain ⟨h1, rfl⟩ := h
    have : n = 0 := Nat.eq_of_beq_eq_true h1
    subst this
    refine ⟨?_, trivial⟩
    have hl := run_loadCells_list (P := C.P) w ⟨(φ b).blk, (φ b).sh + o, none⟩ [] (fun j v hv => by simp at hv)
    simpa [concs] using hl
theorem toStr_of (hr : HRel C φ D S nx B w) {b o n cap : Nat} {l : List AV} {s : List Nat} (hb : D b) (h : cellsAt C S b o n = some l) (hs : bytesOfCells l = some s) :
    (Conv.bytesToString (.slice (some ⟨(φ b).blk, (φ b).sh + o, none⟩) n cap)).run C.P w = .ok (conc φ (.str s)) w ∧ good D (.str s) := by
  obtain ⟨h1, _⟩ := cellsAt_of hr hb h
  obtain ⟨ns, rfl, rfl⟩ := bytesOfCells_ints hs
  have h2 := run_bytesToString (P := C.P) w ⟨(φ b).blk, (φ b).sh + o, none⟩ n cap (ns.map Int.ofNat) (by
    rw [h1]; congr 2
    rw [concs_eq, List.map_map, List.map_map]; rfl)
  constructor
  · rw [h2, foldl_push]
    congr 2
    simp only [bytesOf, List.map_map]
    congr 1
    apply Array.ext'
    simp
    intro a _
    exact UInt8.toNat_inj.1 (by simp)
  · simp only [good]
    intro x hx
    obtain ⟨y, _, rfl⟩ := List.mem_map.1 hx
    exact Nat.mod_lt _ (by decide)
theorem aToStr_sound (hr : HRel C φ D S nx B w) {x v : AV} (hx : good D x) (h : aToStr C S x = some v) : (Conv.bytesToString (conc φ x)).run C.P w = .ok (conc φ v) w ∧ good D v ∧ ∃ a l c, conc φ x = .slice a l c := by
  unfold aToStr at h
  split at h
  · simp at h; subst h; exact ⟨rfl, by simp [good], _, _, _, rfl⟩
  · split at h
    · rename_i l hl
      split at h
      · rename_i s hs
        simp at h; subst h
        obtain ⟨h1, h2⟩ := toStr_of hr hx hl hs
        exact ⟨h1, h2, _, _, _, rfl⟩
      · simp at h
    · simp at h
  · split at h
    · rename_i l hl
      split at h
      · rename_i s hs
        simp at h; subst h
        obtain ⟨h1, h2⟩ := toStr_of hr hx hl hs
        exact ⟨h1, h2, _, _, _, rfl⟩
      · simp at h
    · simp at h
  · simp at h
theorem lies_row {P : Program} {e : TypeId} {z count off n : Nat} (hz : P.cellsOf e = z) (h0 : 0 < z) (hm : off % z = 0) (hn : off / z + n ≤ count) : liesAt P P.depth e count off e n = true := by
  have hd : P.depth = (2 * (P.types.size + Made.depth) + 1) + 1 := rfl
  have h0' : z ≠ 0 := by omega
  rw [hd]
  simp only [liesAt, Bool.or_eq_true]
  left
  rw [hd]
  simp [rowAt, hz, h0', hm, hn, sameLayout]
theorem ptrConv_sound (hr : HRel C φ D S nx B w) {s d : Nat} {a v : AV} (g : good D a) (h : ptrConv C S s d a = some v) : (convert s d (conc φ a)).run C.P w = .ok (conc φ v) w ∧ good D v := by
  unfold ptrConv at h
  split at h
  · rename_i b o
    have gb : D b := g
    split at h
    · rename_i c n t ho
      obtain ⟨arr, ty, lo, hi, a1, ⟨a2, rfl, hsh⟩, a3, a4⟩ := hr.obj b _ ho gb
      have hshape : w.shape? (φ b).blk = some (ty, arr.size) := by simp [World.shape?, a1]
      split at h
      · rename_i e hs hd
        split at h
        · rename_i z hz
          simp only [cnd_none, Bool.and_eq_true, Option.some.injEq] at h
          obtain ⟨⟨h1, h2⟩, rfl⟩ := h
          have h1 := blt_lt h1
          have h2 := blt_lt h2
          obtain ⟨j, hj, hjz⟩ := szOf_some hz
          refine ⟨?_, g⟩
          simp only [conc]
          exact Lib.run_to_unsafe w _ hs hd hj (by omega) hshape (by simp only; omega)
        · simp at h
      · rename_i u hs hd
        split at h
        · rename_i z hz
          simp only [cnd_none, Bool.and_eq_true, Option.some.injEq] at h
          obtain ⟨⟨⟨h1, h2⟩, h3, h4⟩, rfl⟩ := h
          have h1 := Nat.eq_of_beq_eq_true h1
          have h2 := Nat.eq_of_beq_eq_true h2
          have h3 := blt_lt h3
          have h4 := ble_le h4
          subst h1 h2
          obtain ⟨j, hj, hjz⟩ := szOf_some hz
          have hc : C.P.cellsOf ty = z := by simp [Program.cellsOf, hj, hjz]
          refine ⟨?_, g⟩
          simp only [conc]
          refine Lib.run_from_unsafe w _ hs hd hj hshape (lies_row hc h3 (by simp only [hsh]; simp) ?_)
          simp only [hsh, Nat.add_zero, Nat.zero_div, Nat.zero_add, hc]
          rw [Nat.le_div_iff_mul_le h3]
          omega
        · simp at h
      · simp at h
    · simp at h
  · simp at h
theorem lConv_sound (hr : HRel C φ D S nx B w) {s d : Nat} {x : Operand} {ρ : Operand → Value} {ρ' : Operand → Option AV} {v : AV} (hρ : Ev φ D ρ ρ' [x])
    (h : lConv C s d x S ρ' = some v) : (convert s d (ρ x)).run C.P w = .ok (conc φ v) w ∧ good D v := by
  unfold lConv at h
  split at h
  · rename_i a ha
    obtain ⟨e, g⟩ := hρ x (by simp) a ha
    rw [e]
    split at h
    · rename_i u hu
      simp at h; subst h
      exact aConv_sound g hu
    · split at h
      · rename_i el hus hud
        split at h
        · rename_i he
          obtain ⟨h1, h2, a', l, c, h3⟩ := aToStr_sound hr g h
          refine ⟨?_, h2⟩
          rw [h3] at h1 ⊢
          rw [run_convert_bytes_string w s d el a' l c hus he hud]
          exact h1
        · simp at h
      · exact ptrConv_sound hr g h
  · simp at h

/-! ### Slicing -/
theorem leO_of {o : Option AV} {m d r : Nat} (h : leO o m d = some r) : (o = none ∧ r = d) ∨ ∃ k, o = some (.int k (Int.ofNat r)) ∧ r ≤ m := by
  unfold leO at h
  split at h
  · rename_i v
    split at h
    · rename_i n hn
      simp only [cnd_none, Option.some.injEq] at h
      obtain ⟨h1, rfl⟩ := h
      obtain ⟨k, rfl⟩ := natOf_some hn
      exact .inr ⟨k, rfl, ble_le h1⟩
    · simp at h
  · simp at h; exact .inl ⟨rfl, h.symm⟩
theorem run_sliceBound {P : Program} {k : IntKind} {n y : Nat} {code : BoundsCode} (h : n ≤ y) : (Instr.sliceBound (.int k (Int.ofNat n)) y code).run P w = .ok n w := by
  have h1 : (0 : Int) ≤ Int.ofNat n ∧ Int.ofNat n ≤ (y : Int) := ⟨Int.natCast_nonneg n, Int.ofNat_le.2 h⟩
  simp only [Instr.sliceBound, asIntOf, Sem.run_bind, Sem.run_pure, Result.andThen_ok]
  rw [if_pos h1]
  rfl
/-- the bounds; the room (cap') may be more than is known (cap) -/
theorem bounds_sound {isSlice : Bool} {len cap cap' : Nat} {lo hi mx : Option AV} {l h m : Nat} (hc : cap ≤ cap') (hb : aBounds len cap lo hi mx = some (l, h, m)) :
    (Instr.sliceBounds isSlice len cap' (lo.map (conc φ)) (hi.map (conc φ)) (mx.map (conc φ))).run C.P w = .ok (l, h, if mx.isSome then m else cap') w ∧ l ≤ h ∧ (mx = none → m = cap) ∧ m ≤ cap ∧ (h ≤ m ∨ h = len) := by
  unfold aBounds at hb
  split at hb
  · simp at hb
  · rename_i m' hm
    split at hb
    · simp at hb
    · rename_i h' hh
      split at hb
      · simp at hb
      · rename_i l' hl
        simp at hb
        obtain ⟨rfl, rfl, rfl⟩ := hb
        have hle0 : l' ≤ h' := by
          rcases leO_of hl with ⟨_, rfl⟩ | ⟨k, _, hle⟩
          · exact Nat.zero_le _
          · exact hle
        cases mx with
        | none =>
          have hm' : m' = cap := by simpa [leO] using hm.symm
          subst hm'
          have hh' : leO hi m' len = some h' := by cases hi <;> exact hh
          refine ⟨?_, hle0, fun _ => rfl, Nat.le_refl _, (leO_of hh').elim (fun h => .inr h.2) (fun ⟨_, _, h⟩ => .inl h)⟩
          rcases leO_of hh' with ⟨rfl, rfl⟩ | ⟨k, rfl, hle⟩ <;> rcases leO_of hl with ⟨rfl, rfl⟩ | ⟨k2, rfl, hle2⟩
          · simp [Instr.sliceBounds]
          · simp only [Instr.sliceBounds, Option.map_none, Option.map_some, conc, Sem.run_bind, Sem.run_pure, Result.andThen_ok, run_sliceBound hle2, Option.isSome_none, Bool.false_eq_true, if_false]
          · simp only [Instr.sliceBounds, Option.map_none, Option.map_some, conc, Sem.run_bind, Sem.run_pure, Result.andThen_ok, run_sliceBound (Nat.le_trans hle hc), Option.isSome_none, Bool.false_eq_true, if_false]
          · simp only [Instr.sliceBounds, Option.map_none, Option.map_some, conc, Sem.run_bind, Sem.run_pure, Result.andThen_ok, run_sliceBound (Nat.le_trans hle hc), run_sliceBound hle2, Option.isSome_none, Bool.false_eq_true, if_false]
        | some mv =>
          rcases leO_of hm with ⟨h0, _⟩ | ⟨k, h0, hle⟩
          · cases h0
          · cases h0
            cases hi with
            | none => simp at hh
            | some hv =>
              have hh' : leO (some hv) m' len = some h' := hh
              rcases leO_of hh' with ⟨h0, _⟩ | ⟨k', h0, hle'⟩
              · cases h0
              · cases h0
                refine ⟨?_, hle0, (fun h => by cases h), hle, .inl hle'⟩
                rcases leO_of hl with ⟨rfl, rfl⟩ | ⟨k2, rfl, hle2⟩
                · simp only [Instr.sliceBounds, Option.map_none, Option.map_some, conc, Sem.run_bind, Sem.run_pure, Result.andThen_ok, run_sliceBound (Nat.le_trans hle hc), run_sliceBound hle', Option.isSome_some, if_true]
                · simp only [Instr.sliceBounds, Option.map_some, conc, Sem.run_bind, Sem.run_pure, Result.andThen_ok, run_sliceBound (Nat.le_trans hle hc), run_sliceBound hle', run_sliceBound hle2, Option.isSome_some, if_true]
end
end Go.AE

namespace Go.AE
open Go.RowKit (Below)
section
variable {C : Cfg} {φ : Phi} {D : Nat → Prop} {S : Tr AObj} {nx B : Nat} {w : World}

theorem cnd_place (m l o sz : Nat) : cnd (Nat.beq m l) o (o + l * sz) = if m = l then o else o + l * sz := cnd_beq _ _ _ _
theorem sizeAt_of (hr : HRel C φ D S nx B w) {b n : Nat} (hb : D b) (h : sizeAt C S b = some n) : n ≤ (φ b).room := by
  unfold sizeAt at h
  split at h
  · rename_i c m olds ho
    simp at h; subst h
    obtain ⟨arr, ty, lo, hi, _, h2, _, _⟩ := hr.obj b _ ho hb
    exact h2.2.1
  · rename_i c m ho
    simp at h; subst h
    obtain ⟨arr, ty, lo, hi, _, h2, _, _⟩ := hr.obj b _ ho hb
    exact h2.2.1
  · simp at h
/-- the result of a slice of a slice or of an array in the model -/
theorem slice_conc {b o l h m sz : Nat} : Value.slice (some (if m = l then (⟨(φ b).blk, (φ b).sh + o, none⟩ : Addr) else (⟨(φ b).blk, (φ b).sh + o, none⟩ : Addr).add (l * sz))) (h - l) (m - l)
    = conc φ (.slice b (cnd (Nat.beq m l) o (o + l * sz)) (h - l) (m - l)) := by
  rw [cnd_place]
  simp only [conc, add_at]
  split
  · rfl
  · rw [Nat.add_assoc]
theorem aSlice_sound (hr : HRel C φ D S nx B w) {t : Nat} {x v : AV} {lo hi mx : Option AV} (hx : good D x) (h : aSlice C S t x lo hi mx = some v) :
    (Instr.sliceAt t (conc φ x) (lo.map (conc φ)) (hi.map (conc φ)) (mx.map (conc φ))).run C.P w = .ok (conc φ v) w ∧ good D v := by
  unfold aSlice at h
  split at h
  · rename_i s hu
    cases mx with
    | some _ => simp at h
    | none =>
      simp only at h
      split at h
      · rename_i l h' m hb
        simp at h; subst h
        obtain ⟨h1, h2, _⟩ := bounds_sound (C := C) (φ := φ) (w := w) (isSlice := false) (Nat.le_refl _) hb
        have hsz : (bytesOf s).size = s.length := by simp [bytesOf, ByteArray.size]
        constructor
        · simp only [Option.map_none, Option.isSome_none, Bool.false_eq_true, if_false] at h1
          simp [Instr.sliceAt, run_underlying hu, Instr.slice, conc, hsz, h1]
          apply ByteArray.ext
          rw [ByteArray.data_extract]
          apply Array.ext'
          simp [bytesOf, List.map_take, List.map_drop, List.take_drop]
        · simp only [good] at hx ⊢
          intro z hz
          exact hx z (List.mem_of_mem_drop (List.mem_of_mem_take hz))
      · simp at h
  · rename_i elem b o len cap hu
    split at h
    · rename_i l h' m sz hb hsz
      simp at h; subst h
      obtain ⟨h1, h2, h3, _⟩ := bounds_sound (C := C) (φ := φ) (w := w) (isSlice := true) (Nat.le_refl cap) hb
      have hm : (if mx.isSome = true then m else cap) = m := by cases mx with
        | none => simp [h3 rfl]
        | some _ => rfl
      rw [hm] at h1
      refine ⟨?_, hx⟩
      have := slice_conc (φ := φ) (b := b) (o := o) (l := l) (h := h') (m := m) (sz := sz)
      simp only [Instr.sliceAt, Sem.run_bind, run_underlying hu, Result.andThen_ok, Instr.slice, conc, h1, run_szOf hsz, Sem.run_pure]
      rw [← conc, ← this]
      split <;> rfl
    · simp at h
  · rename_i elem hu
    split at h
    · rename_i r sz hb hsz
      obtain ⟨l, h', m⟩ := r
      simp at h; subst h
      obtain ⟨h1, h2, h3, h4, h5⟩ := bounds_sound (C := C) (φ := φ) (w := w) (isSlice := true) (Nat.le_refl 0) hb
      have hm : m = 0 := by omega
      have hh : h' = 0 := by omega
      have hl : l = 0 := by omega
      subst hm; subst hh; subst hl
      refine ⟨?_, trivial⟩
      have h1' : (Instr.sliceBounds true 0 0 (lo.map (conc φ)) (hi.map (conc φ)) (mx.map (conc φ))).run C.P w = .ok (0, 0, 0) w := by rw [h1]; split <;> rfl
      simp [Instr.sliceAt, run_underlying hu, Instr.slice, conc, h1', run_szOf hsz]
    · simp at h
  · rename_i elem b o len sz hu
    split at h
    · rename_i sz' n hsz hn
      simp only [cnd_none, Bool.and_eq_true] at h
      obtain ⟨⟨hs1, hs2⟩, h⟩ := h
      have hs1 : sz = sz' := Nat.eq_of_beq_eq_true hs1
      subst hs1
      have hs2 : 0 < sz := blt_lt hs2
      have hroom := sizeAt_of hr hx hn
      have hcap : (n - o) / sz ≤ ((φ b).room - o) / sz := Nat.div_le_div_right (by omega)
      split at h
      · rename_i l h' m hb
        obtain ⟨h1, h2, h3, _⟩ := bounds_sound (C := C) (φ := φ) (w := w) (isSlice := true) hcap hb
        cases mx with
        | some mv =>
          simp at h; subst h
          refine ⟨?_, hx⟩
          have := slice_conc (φ := φ) (b := b) (o := o) (l := l) (h := h') (m := m) (sz := sz)
          simp only [Option.isSome_some, if_true] at h1
          simp only [Instr.sliceAt, Sem.run_bind, run_underlying hu, Result.andThen_ok, Instr.slice, conc, h1, run_szOf hsz, Sem.run_pure]
          rw [← conc, ← this]
          split <;> rfl
        | none =>
          simp only [cnd_none, Option.some.injEq, Bool.or_eq_true] at h
          obtain ⟨hl, rfl⟩ := h
          refine ⟨?_, hx⟩
          simp only [Option.isSome_none, Bool.false_eq_true, if_false] at h1
          simp only [Instr.sliceAt, Sem.run_bind, run_underlying hu, Result.andThen_ok, Instr.slice, conc, h1, run_szOf hsz, Sem.run_pure]
          have e2 : ((φ b).room - (o + l * sz)) / sz = ((φ b).room - o) / sz - l := by
            rw [← Nat.sub_sub, Nat.mul_comm l sz, Nat.sub_mul_div]
          rw [e2]
          congr 1
          congr 1
          rcases hl with hl | hl
          · have hl := blt_lt hl
            rw [if_neg (by omega), Option.map_some, add_at, Nat.add_assoc]
          · have hl : l = 0 := Nat.eq_of_beq_eq_true hl
            subst hl
            split <;> simp [add_at]
      · simp at h
    · simp at h
  · rename_i n elem b o hu
    split at h
    · rename_i l h' m sz hb hsz
      simp at h; subst h
      obtain ⟨h1, h2, h3, _⟩ := bounds_sound (C := C) (φ := φ) (w := w) (isSlice := false) (Nat.le_refl n) hb
      have hm : (if mx.isSome = true then m else n) = m := by cases mx with
        | none => simp [h3 rfl]
        | some _ => rfl
      rw [hm] at h1
      refine ⟨?_, hx⟩
      have := slice_conc (φ := φ) (b := b) (o := o) (l := l) (h := h') (m := m) (sz := sz)
      simp only [Instr.sliceAt, Sem.run_bind, run_underlying hu, Result.andThen_ok, Instr.sureAddr, conc, h1, run_szOf hsz, Sem.run_pure]
      rw [← conc, ← this]
    · simp at h
  · simp at h
end
end Go.AE

namespace Go.AE
open Go.RowKit (Below)
section
variable {C : Cfg} {φ : Phi} {D : Nat → Prop} {S : Tr AObj} {nx B : Nat} {w : World}

/-! ### Maps, read -/
theorem run_forIn_list_unit {α : Type} {P : Program} (f : α → PUnit → Sem (ForInStep PUnit)) : ∀ (l : List α), (∀ a ∈ l, (f a ⟨⟩).run P w = .ok (.yield ⟨⟩) w) → (forIn l PUnit.unit f).run P w = .ok ⟨⟩ w := by
  intro l
  induction l with
  | nil => intro _; simp [Sem.run_pure]
  | cons a l ih => intro h; simp [List.forIn_cons, h a (by simp), ih fun b hb => h b (by simp [hb])]
theorem aKeyItems_get {ok : Nat → AV → Bool} {e s : Nat} {cs : List AV} : ∀ (n i : Nat), aKeyItems C ok e s cs i n = true → ∀ j, i ≤ j → j < i + n → ∃ p, aPart C e cs (j * s) = some p ∧ ok e p = true := by
  intro n
  induction n with
  | zero => intro i _ j h1 h2; omega
  | succ n ih =>
    intro i h j h1 h2
    simp only [aKeyItems, Bool.and_eq_true] at h
    rcases Nat.eq_or_lt_of_le h1 with rfl | h1
    · have := h.1
      split at this
      · rename_i p hp; exact ⟨p, hp, this⟩
      · cases this
    · exact ih (i + 1) h.2 j h1 (by omega)
theorem aKeyOk_sound {e : Bool} : ∀ (n m t : Nat) (v : AV), n ≤ m → good D v → aKeyOk C n t v = true → (Instr.checkKey e m t (conc φ v)).run C.P w = .ok () w := by
  intro n
  induction n with
  | zero => intro m t v _ _ h; simp [aKeyOk] at h
  | succ n ih =>
    intro m t v hm hv h
    obtain ⟨m, rfl⟩ : ∃ k, m = k + 1 := ⟨m - 1, by omega⟩
    unfold aKeyOk at h
    split at h
    · rename_i ms d x hu
      split at h
      · rename_i i hi
        simp only [Bool.and_eq_true] at h
        have := ih m d x (by omega) hv h.2
        simp [Instr.checkKey, run_underlying hu, conc, typeInfo, hi, h.1, this]
      · simp at h
    · rename_i hu; simp [Instr.checkKey, run_underlying hu, conc]
    · simp at h
    · rename_i fields cs hu
      simp only [Instr.checkKey, Sem.run_bind, run_underlying hu, Result.andThen_ok, conc]
      rw [← Array.forIn_toList]
      refine (congrArg (fun r => Result.andThen r _) (run_forIn_list_unit _ _ ?_)).trans rfl
      intro f hf
      have := List.all_eq_true.1 h f hf
      simp only [Bool.or_eq_true, beq_iff_eq] at this
      by_cases hn : f.name = "_"
      · simp [hn]
      · rcases this with h1 | h1
        · exact absurd h1 hn
        · split at h1
          · rename_i p hp
            obtain ⟨p1, p2⟩ := aPart_sound (φ := φ) (w := w) hv hp
            simp [hn, p1, ih m f.type p (by omega) p2 h1]
          · simp at h1
    · simp at h
    · rename_i n' el cs hu
      split at h
      · rename_i s hs
        simp only [Instr.checkKey, Sem.run_bind, run_underlying hu, Result.andThen_ok, conc]
        simp only [Std.Legacy.Range.forIn_eq_forIn_range', Std.Legacy.Range.size, Nat.sub_zero, Nat.add_one_sub_one, Nat.div_one]
        refine (congrArg (fun r => Result.andThen r _) (run_forIn_list_unit _ _ ?_)).trans rfl
        intro j hj
        rw [List.mem_range'_1] at hj
        obtain ⟨p, hp, hk⟩ := aKeyItems_get _ _ h j (by omega) (by omega)
        obtain ⟨p1, p2⟩ := aPart_sound (φ := φ) (w := w) hv hp
        simp [run_szOf hs, p1, ih m el p (by omega) p2 hk]
      · simp at h
    · simp at h
    · rename_i d n1 n2 n3 hu n5 n6 n7 n8
      simp only [Instr.checkKey, Sem.run_bind, run_underlying hu, Result.andThen_ok]
      cases d <;> first
        | exact (n1 _ rfl).elim
        | exact (n2 _ rfl).elim
        | exact (n3 _ _ rfl).elim
        | rfl
    · simp at h

theorem conc_int {x : AV} {k : IntKind} {a : Int} (h : conc φ x = .int k a) : x = .int k a := by
  cases x <;> simp [conc] at h
  obtain ⟨rfl, rfl⟩ := h; rfl
theorem conc_bool {x : AV} {a : Bool} (h : conc φ x = .bool a) : x = .bool a := by
  cases x <;> simp [conc] at h
  subst h; rfl
theorem conc_str {x : AV} {a : ByteArray} (h : conc φ x = .string a) : ∃ s, x = .str s ∧ a = bytesOf s := by
  cases x <;> simp [conc] at h
  exact ⟨_, rfl, h.symm⟩
theorem bytes_beq (a b : ByteArray) : (a == b) = (a.toList == b.toList) := by
  show (a.data == b.data) = _
  rw [Bool.eq_iff_iff, beq_iff_eq, beq_iff_eq, ByteArray.toList_eq, ByteArray.toList_eq]
  exact ⟨fun h => by rw [h], fun h => Array.toList_inj.1 h⟩
theorem sameNow_eq {d t : Nat} {kd : TypeDesc} {x y : AV} {r r' : Bool} (hu : C.P.underlying t = some kd) (gx : good D x) (gy : good D y)
    (h : aEq C S d t x y = some r) (h' : Instr.sameNow kd (conc φ x) (conc φ y) = some r') : r = r' := by
  cases d with
  | zero => simp [aEq] at h
  | succ d =>
    unfold Instr.sameNow at h'
    split at h'
    · rename_i kk k a k' b hx hy
      rw [conc_int hx, conc_int hy] at h
      simp [aEq, hu] at h
      split at h'
      · simp at h'; rw [← h', ← h.2]; rfl
      · simp at h'
    · rename_i a b hx hy
      obtain ⟨s, rfl, rfl⟩ := conc_str hx
      obtain ⟨s', rfl, rfl⟩ := conc_str hy
      simp [aEq, hu] at h
      simp at h'
      rw [← h', ← h, bytes_beq, str_eq gx gy]
    · rename_i a b hx hy
      rw [conc_bool hx, conc_bool hy] at h
      simp [aEq, hu] at h
      simp at h'; rw [← h', ← h]
    · simp at h'
/-- what was found, in the model's words -/
def cFound (φ : Phi) (r : Option (Nat × AV)) : Option (Nat × Value) := r.map fun x => (x.1, conc φ x.2)
theorem findNow_eq {t : Nat} {kd : TypeDesc} {k : AV} (hu : C.P.underlying t = some kd) (gk : good D k) : ∀ (es : List (AV × AV × Nat)) (i : Nat) (r : Option (Nat × AV)) (r' : Option (Nat × Value)),
    (∀ e ∈ es, good D e.1 ∧ good D e.2.1) → findKey C S t k es i = some r → Instr.findNow kd (conc φ k) (es.map (entryOf φ)) i = some r' → r' = cFound φ r := by
  intro es
  induction es with
  | nil => intro i r r' _ h h'; simp [findKey] at h; simp [Instr.findNow] at h'; subst h; subst h'; rfl
  | cons e es ih =>
    intro i r r' hg h h'
    obtain ⟨k', v, b⟩ := e
    simp only [findKey] at h
    simp only [List.map_cons, Instr.findNow, entryOf] at h'
    split at h
    · rename_i he
      simp at h; subst h
      split at h'
      · simp at h'; rw [← h']; rfl
      · rename_i hs
        have := sameNow_eq hu gk (hg (k', v, b) (List.mem_cons_self ..)).1 he hs
        simp at this
      · simp at h'
    · rename_i he
      split at h'
      · rename_i hs
        have := sameNow_eq hu gk (hg (k', v, b) (List.mem_cons_self ..)).1 he hs
        simp at this
      · exact ih _ _ _ (fun e he => hg e (by simp [he])) h h'
      · simp at h'
    · simp at h
theorem findAsking_run (hr : HRel C φ D S nx B w) {t : Nat} {k : AV} (gk : good D k) : ∀ (es : List (AV × AV × Nat)) (i : Nat) (r : Option (Nat × AV)),
    (∀ e ∈ es, good D e.1 ∧ good D e.2.1) → findKey C S t k es i = some r → (Instr.findAsking t (conc φ k) (es.map (entryOf φ)) i).run C.P w = .ok (cFound φ r) w := by
  intro es
  induction es with
  | nil => intro i r _ h; simp [findKey] at h; subst h; simp [Instr.findAsking, cFound]
  | cons e es ih =>
    intro i r hg h
    obtain ⟨k', v, b⟩ := e
    simp only [findKey] at h
    have hm : 20 ≤ Op.maxDepth := by decide
    split at h
    · rename_i he
      simp at h; subst h
      have := aEq_sound hr 20 _ t k k' true hm gk (hg (k', v, b) (List.mem_cons_self ..)).1 he
      simp [Instr.findAsking, Op.equal, entryOf, this, cFound]
    · rename_i he
      have := aEq_sound hr 20 _ t k k' false hm gk (hg (k', v, b) (List.mem_cons_self ..)).1 he
      simp [Instr.findAsking, Op.equal, entryOf, this]
      exact ih _ _ (fun e he => hg e (by simp [he])) h
    · simp at h
theorem findKey_sound (hr : HRel C φ D S nx B w) {t : Nat} {kd : TypeDesc} {k : AV} {es : List (AV × AV × Nat)} {r : Option (Nat × AV)} (hu : C.P.underlying t = some kd) (gk : good D k)
    (hg : ∀ e ∈ es, good D e.1 ∧ good D e.2.1) (h : findKey C S t k es 0 = some r) : (Instr.findKey t (conc φ k) (es.map (entryOf φ))).run C.P w = .ok (cFound φ r) w := by
  simp only [Instr.findKey, Sem.run_bind, run_underlying hu, Result.andThen_ok]
  split
  · rename_i r' h'
    rw [findNow_eq hu gk es 0 r r' hg h h']; rfl
  · exact findAsking_run hr gk es 0 r hg h
theorem findKey_good {t : Nat} {k : AV} : ∀ (es : List (AV × AV × Nat)) (i j : Nat) (v : AV), findKey C S t k es i = some (some (j, v)) → i ≤ j ∧ ∃ e, es[j - i]? = some e ∧ e.2.1 = v := by
  intro es
  induction es with
  | nil => intro i j v h; simp [findKey] at h
  | cons e es ih =>
    intro i j v h
    obtain ⟨k', v', b⟩ := e
    simp only [findKey] at h
    split at h
    · simp at h
      obtain ⟨rfl, rfl⟩ := h
      exact ⟨Nat.le_refl _, (k', v', b), by simp, rfl⟩
    · obtain ⟨h1, e, h2, h3⟩ := ih _ _ _ h
      refine ⟨by omega, e, ?_, h3⟩
      rw [show j - i = (j - (i + 1)) + 1 by omega]
      simpa using h2
    · simp at h
theorem keyType_some {t d : Nat} {k : AV} (h : aKeyOk C d t k = true) : ∃ kd, C.P.underlying t = some kd := by
  cases d with
  | zero => simp [aKeyOk] at h
  | succ d =>
    cases hu : C.P.underlying t with
    | none => simp [aKeyOk, hu] at h
    | some kd => exact ⟨kd, rfl⟩
theorem map_of_rel (hr : HRel C φ D S nx B w) {r : Nat} {es : List (AV × AV × Nat)} {clock : Nat} (hd : D r) (h : hget C S r = some (.map es clock)) :
    ∃ arr, (getObj (φ r).blk).run C.P w = .ok (.map arr clock) w ∧ w.heap[(φ r).blk]? = some (.map arr clock) ∧ arr.toList = es.map (entryOf φ) ∧ ∀ e ∈ es, good D e.1 ∧ good D e.2.1 := by
  obtain ⟨arr, h1, h2, h3⟩ := hr.obj r _ h hd
  exact ⟨arr, MapKept.run_getObj_map h1, h1, h2, h3⟩
theorem lookP_perm {t : Nat} {k : AV} {a b : List (AV × AV)} (h : a.Perm b) : ∀ r, lookP C S t k a = some r → lookP C S t k b = some r := by
  induction h with
  | nil => exact fun _ h => h
  | cons x _ ih =>
    obtain ⟨k', v⟩ := x
    intro r h
    simp only [lookP] at h ⊢
    split at h
    · rename_i hr he
      rw [ih _ hr, he]; simpa using h
    · rename_i hr he
      rw [ih _ hr, he]; simpa using h
    · cases h
  | swap x y l =>
    obtain ⟨kx, vx⟩ := x
    obtain ⟨ky, vy⟩ := y
    intro r h
    simp only [lookP] at h ⊢
    cases hl : lookP C S t k l with
    | none => simp [hl] at h
    | some r0 =>
      simp only [hl] at h
      cases hx : aEq C S 20 t k kx with
      | none => rw [hx] at h; cases r0 <;> simp at h
      | some bx =>
        cases hy : aEq C S 20 t k ky with
        | none =>
          rw [hx, hy] at h
          cases bx <;> cases r0 <;> simp at h
        | some by' =>
          rw [hx, hy] at h
          cases bx <;> cases by' <;> cases r0 <;> simp at h ⊢ <;> exact h
  | trans _ _ ih1 ih2 => exact fun r h => ih2 r (ih1 r h)
theorem lookP_find {t : Nat} {k : AV} : ∀ (es : List (AV × AV × Nat)) (i : Nat) (r : Option AV), lookP C S t k (es.map fun e => (e.1, e.2.1)) = some r → ∃ r', findKey C S t k es i = some r' ∧ r'.map (·.2) = r := by
  intro es
  induction es with
  | nil => intro i r h; simp [lookP] at h; subst h; exact ⟨none, rfl, rfl⟩
  | cons e es ih =>
    obtain ⟨k', v', b⟩ := e
    intro i r h
    simp only [List.map_cons, lookP] at h
    simp only [findKey]
    split at h
    · rename_i r0 hr he
      simp at h; subst h
      rw [he]
      exact ih (i + 1) _ hr
    · rename_i hr he
      simp at h; subst h
      rw [he]
      exact ⟨some (i, v'), rfl, rfl⟩
    · cases h
theorem aLookup_sound (hr : HRel C φ D S nx B w) {t : Nat} {m k v : AV} {ok : Bool} (gm : good D m) (gk : good D k) (h : aLookup C S t m k ok = some v) :
    (Instr.lookup t (conc φ m) (conc φ k) ok).run C.P w = .ok (conc φ v) w ∧ good D v := by
  unfold aLookup at h
  split at h
  · rename_i kt et hu
    have key : ∀ (es : List (AV × AV × Nat)) (arr : Array MapEntry) (r : Option (Nat × AV)), arr.toList = es.map (entryOf φ) → (∀ e ∈ es, good D e.1 ∧ good D e.2.1) → aKeyOk C 20 kt k = true → findKey C S kt k es 0 = some r →
        (match r with | none => (match zeroOf C et with | some z => some (cnd ok (.tuple [z, .bool false]) z) | none => none) | some (_, v) => some (cnd ok (.tuple [v, .bool true]) v)) = some v →
        (do Instr.checkKey arr.isEmpty 10000 kt (conc φ k)
            let (v, o) ← match ← Instr.findKey kt (conc φ k) arr.toList with
              | some (_, v) => pure (v, true)
              | none => pure (← zeroValue et, false)
            pure (if ok then .tuple #[v, .bool o] else v) : Sem Value).run C.P w = .ok (conc φ v) w ∧ good D v := by
      intro es arr r ha hg hk hf hv
      obtain ⟨kd, hkd⟩ := keyType_some hk
      have h1 := aKeyOk_sound (C := C) (φ := φ) (D := D) (w := w) (e := arr.isEmpty) 20 10000 kt k (by decide) gk hk
      have h2 := findKey_sound hr hkd gk hg hf
      rw [ha]
      cases r with
      | none =>
        simp only at hv
        split at hv
        · rename_i z hz
          obtain ⟨z1, z2⟩ := run_zeroOf hz φ D w
          simp at hv; subst hv
          cases ok
          · exact ⟨by simp [h1, h2, cFound, z1], z2⟩
          · exact ⟨by simp [h1, h2, cFound, z1, conc, concs], ⟨z2, trivial, trivial⟩⟩
        · simp at hv
      | some p =>
        obtain ⟨j, u⟩ := p
        simp at hv; subst hv
        obtain ⟨_, e, he, rfl⟩ := findKey_good es 0 j u hf
        have hgu := (hg e (List.mem_of_getElem? he)).2
        cases ok
        · exact ⟨by simp [h1, h2, cFound], hgu⟩
        · exact ⟨by simp [h1, h2, cFound, conc, concs], ⟨hgu, trivial, trivial⟩⟩
    split at h
    · simp at h
    · rename_i hm
      split at hm
      · simp only [cnd_none, Option.some.injEq] at hm
        have := key [] #[] none rfl (by simp) hm.1 (by simp [findKey]) h
        refine ⟨?_, this.2⟩
        rw [← this.1]
        simp only [Instr.lookup, Sem.run_bind, run_underlying hu, Result.andThen_ok, conc, Sem.run_pure]
        rfl
      · rename_i r
        split at hm
        · rename_i es clock ho
          simp only [cnd_none] at hm
          obtain ⟨arr, h1, _, h2, h3⟩ := map_of_rel hr gm ho
          have := key es arr none h2 h3 hm.1 hm.2 h
          refine ⟨?_, this.2⟩
          rw [← this.1]
          simp only [Instr.lookup, Sem.run_bind, run_underlying hu, Result.andThen_ok, conc, Sem.run_pure, h1]
          rfl
        · rename_i es ho
          simp only [cnd_none] at hm
          obtain ⟨arr, clock, es', h1, h2, h4, h3⟩ := hr.obj r _ ho gm
          have hP : lookP C S kt k es = some none := by
            have := hm.2
            unfold lookR at this
            split at this <;> simp at this
            all_goals (rename_i q; first | (rw [q, this.2]) | exact q | (rw [q]; simp [this]))
          obtain ⟨r', f1, f2⟩ := lookP_find es' 0 _ (lookP_perm h4.symm _ hP)
          cases r' with
          | none =>
            have := key es' arr none h2 h3 hm.1 f1 h
            refine ⟨?_, this.2⟩
            rw [← this.1]
            simp only [Instr.lookup, Sem.run_bind, run_underlying hu, Result.andThen_ok, conc, Sem.run_pure, MapKept.run_getObj_map h1]
            rfl
          | some p =>
            obtain ⟨p1, p2⟩ := p
            simp at f2
        · simp at hm
      · simp at hm
    · rename_i j u hm
      split at hm
      · simp only [cnd_none] at hm
        simp at hm
      · rename_i r
        split at hm
        · rename_i es clock ho
          simp only [cnd_none] at hm
          obtain ⟨arr, h1, _, h2, h3⟩ := map_of_rel hr gm ho
          have := key es arr (some (j, u)) h2 h3 hm.1 hm.2 h
          refine ⟨?_, this.2⟩
          rw [← this.1]
          simp only [Instr.lookup, Sem.run_bind, run_underlying hu, Result.andThen_ok, conc, Sem.run_pure, h1]
          rfl
        · rename_i es ho
          simp only [cnd_none] at hm
          obtain ⟨arr, clock, es', h1, h2, h4, h3⟩ := hr.obj r _ ho gm
          have hP : lookP C S kt k es = some (some u) := by
            have := hm.2
            unfold lookR at this
            split at this <;> simp at this
            all_goals (rename_i q; first | (rw [q, this.2]) | exact q | (rw [q]; simp [this]))
          obtain ⟨r', f1, f2⟩ := lookP_find es' 0 _ (lookP_perm h4.symm _ hP)
          cases r' with
          | none =>
            simp at f2
          | some p =>
            obtain ⟨p1, p2⟩ := p
            simp at f2
            subst f2
            have := key es' arr (some (p1, p2)) h2 h3 hm.1 f1 h
            refine ⟨?_, this.2⟩
            rw [← this.1]
            simp only [Instr.lookup, Sem.run_bind, run_underlying hu, Result.andThen_ok, conc, Sem.run_pure, MapKept.run_getObj_map h1]
            rfl
        · simp at hm
      · simp at hm
  · simp at h
end
end Go.AE

namespace Go.AE
open Go.RowKit (Below)
section
variable {C : Cfg} {φ : Phi} {D : Nat → Prop} {S : Tr AObj} {nx B : Nat} {w : World}

theorem lField_sound {t f : Nat} {x : Operand} {ρ : Operand → Value} {ρ' : Operand → Option AV} {v : AV} (hρ : Ev φ D ρ ρ' [x])
    (h : lField C t x f S ρ' = some v) : (Instr.field t (ρ x) f).run C.P w = .ok (conc φ v) w ∧ good D v := by
  unfold lField at h
  split at h
  · rename_i fields cs hu hx
    obtain ⟨e, g⟩ := hρ x (by simp) _ hx
    rw [e]
    rw [nth_eq] at h
    split at h
    · rename_i fd hf
      have hf' : fields[f]? = some fd := by rw [← hf]; simp
      obtain ⟨h1, h2⟩ := aPart_sound (φ := φ) (w := w) g h
      refine ⟨?_, h2⟩
      simp [Instr.field, run_underlying hu, hf', asAgg, conc, h1]
    · simp at h
  · simp at h
theorem lIface_sound {t : Nat} {x : Operand} {ρ : Operand → Value} {ρ' : Operand → Option AV} {v : AV} (hρ : Ev φ D ρ ρ' [x])
    (h : lIface C t x S ρ' = some v) : (Instr.makeInterface t (ρ x)).run C.P w = .ok (conc φ v) w ∧ good D v := by
  unfold lIface at h
  split at h
  · simp at h
  · rename_i d u hn hu hx
    obtain ⟨e, g⟩ := hρ x (by simp) _ hx
    simp at h; subst h
    refine ⟨?_, g⟩
    rw [e]
    cases d <;> first | exact (hn _ rfl).elim | simp [Instr.makeInterface, run_underlying hu, conc]
  · simp at h
theorem lAssert_sound {x : Operand} {t asserted : Nat} {ok : Bool} {ρ : Operand → Value} {ρ' : Operand → Option AV} {v : AV} (hρ : Ev φ D ρ ρ' [x])
    (h : lAssert C x asserted ok S ρ' = some v) : (Instr.typeAssert (ρ x) t asserted ok).run C.P w = .ok (conc φ v) w ∧ good D v := by
  unfold lAssert at h
  split at h
  · simp at h
  · rename_i d hn hu hx
    obtain ⟨e, g⟩ := hρ x (by simp) _ hx
    rw [e]
    simp only [cnd_none] at h
    obtain ⟨rfl, h⟩ := h
    split at h
    · rename_i z hz
      simp at h; subst h
      obtain ⟨z1, z2⟩ := run_zeroOf hz φ D w
      refine ⟨?_, z2, trivial, trivial⟩
      cases d <;> first | exact (hn _ rfl).elim | simp [Instr.typeAssert, run_underlying hu, conc, concs, z1]
    · simp at h
  · rename_i d t' u hn hu hx
    obtain ⟨e, g⟩ := hρ x (by simp) _ hx
    rw [e]
    rw [cnd_beq] at h
    split at h
    · rename_i he
      subst he
      simp at h
      cases ok
      · simp at h; subst h
        refine ⟨?_, g⟩
        cases d <;> first | exact (hn _ rfl).elim | simp [Instr.typeAssert, run_underlying hu, conc]
      · simp at h; subst h
        refine ⟨?_, g, trivial, trivial⟩
        cases d <;> first | exact (hn _ rfl).elim | simp [Instr.typeAssert, run_underlying hu, conc, concs]
    · rename_i he
      simp only [cnd_none] at h
      obtain ⟨rfl, h⟩ := h
      split at h
      · rename_i z hz
        simp at h; subst h
        obtain ⟨z1, z2⟩ := run_zeroOf hz φ D w
        refine ⟨?_, z2, trivial, trivial⟩
        cases d <;> first | exact (hn _ rfl).elim | simp [Instr.typeAssert, run_underlying hu, conc, concs, z1, he]
      · simp at h
  · simp at h

theorem lastN_eq : ∀ (l : List Nat), lastN l = l.getLast? := by
  intro l
  induction l with
  | nil => rfl
  | cons a l ih =>
    cases l with
    | nil => rfl
    | cons b l => simp only [lastN, List.getLast?_cons_cons]; exact ih
theorem findBorn_eq (b : Nat) : ∀ (es : List (AV × AV × Nat)), (es.map (entryOf φ)).find? (·.born == b) = (findBorn b es).map (entryOf φ) := by
  intro es
  induction es with
  | nil => rfl
  | cons e es ih =>
    simp only [List.map_cons, findBorn, List.find?_cons, entryOf, cnd_beq]
    by_cases h : e.2.2 = b
    · simp [h, entryOf]
    · have : (e.2.2 == b) = false := by simpa using h
      rw [this]; simp only [h, if_false]; exact ih
theorem findBorn_mem (b : Nat) : ∀ (es : List (AV × AV × Nat)) e, findBorn b es = some e → e ∈ es := by
  intro es
  induction es with
  | nil => intro e h; simp [findBorn] at h
  | cons a es ih =>
    intro e h
    simp only [findBorn, cnd_beq] at h
    split at h
    · simp at h; subst h; simp
    · exact List.mem_cons_of_mem _ (ih e h)
theorem lEntry_sound (hr : HRel C φ D S nx B w) {it : Operand} {ρ : Operand → Value} {ρ' : Operand → Option AV} {v : AV} (hρ : Ev φ D ρ ρ' [it])
    (h : lEntry C it S ρ' = some v) : (Instr.entry (ρ it)).run C.P w = .ok (conc φ v) w ∧ good D v := by
  unfold lEntry at h
  split at h
  · rename_i r hx
    obtain ⟨e, g⟩ := hρ it (by simp) _ hx
    rw [e]
    split at h
    · rename_i m since seen stepped ho
      split at h
      · rename_i stamp es clock hs hm
        simp only [cnd_none] at h
        obtain ⟨hc, h⟩ := h
        have hc : clock = stepped := Nat.eq_of_beq_eq_true hc
        subst hc
        split at h
        · rename_i k u b hb
          simp at h; subst h
          obtain ⟨hsh, h1, h2⟩ := hr.obj r _ ho g
          obtain ⟨arr, m1, _, m3, m4⟩ := map_of_rel hr (h2 m rfl) hm
          have hf : arr.find? (fun e => e.born == stamp) = some (entryOf φ (k, u, b)) := by
            have := findBorn_eq (φ := φ) stamp es
            rw [← m3, hb] at this
            rw [← Array.find?_toList]; exact this
          have hback : seen.toArray.back? = some stamp := by rw [← hs, lastN_eq]; simp
          have hget : (getObj (φ r).blk).run C.P w = .ok (.mapIter (some (φ m).blk) since seen.toArray clock) w := by simp [getObj, Sem.run, h1]
          obtain ⟨g1, g2⟩ := m4 _ (findBorn_mem stamp es _ hb)
          refine ⟨?_, g1, g2, trivial⟩
          simp [Instr.entry, conc, hsh, hget, hback, m1, hf, entryOf, concs]
        · simp at h
      · simp at h
    · rename_i m since n bs stepped cur ho
      split at h
      · rename_i stamp es clock hm
        simp only [cnd_none] at h
        obtain ⟨hc, h⟩ := h
        have hc : clock = stepped := Nat.eq_of_beq_eq_true hc
        subst hc
        split at h
        · rename_i k u b hb
          simp at h; subst h
          obtain ⟨hsh, hdm, seen, h1, _, hs⟩ := hr.obj r _ ho g
          have hs := hs stamp rfl
          obtain ⟨arr, m1, _, m3, m4⟩ := map_of_rel hr hdm hm
          have hf : arr.find? (fun e => e.born == stamp) = some (entryOf φ (k, u, b)) := by
            have := findBorn_eq (φ := φ) stamp es
            rw [← m3, hb] at this
            rw [← Array.find?_toList]; exact this
          have hback : seen.toArray.back? = some stamp := by rw [← hs, lastN_eq]; simp
          have hget : (getObj (φ r).blk).run C.P w = .ok (.mapIter (some (φ m).blk) since seen.toArray clock) w := by simp [getObj, Sem.run, h1]
          obtain ⟨g1, g2⟩ := m4 _ (findBorn_mem stamp es _ hb)
          refine ⟨?_, g1, g2, trivial⟩
          simp [Instr.entry, conc, hsh, hget, hback, m1, hf, entryOf, concs]
        · simp at h
      · simp at h
    · simp at h
  · simp at h

theorem aLen_sound (hr : HRel C φ D S nx B w) {t : Nat} {ats : Array TypeId} {ty : TypeId} {x v : AV} {rest : List TypeId} (ha : ats.toList = t :: rest) (gx : good D x) (h : aLen C S t x = some v) :
    (Builtin.len_ ats ty #[conc φ x]).run C.P w = .ok (conc φ v) w ∧ good D v := by
  have ha0 : ats[0]? = some t := by rw [← Array.getElem?_toList, ha]; rfl
  unfold aLen at h
  split at h <;> (try simp only [intR_eq] at h)
  · rename_i s hu
    simp at h; subst h
    refine ⟨?_, trivial⟩
    have hs : (bytesOf s).size = s.length := by simp [bytesOf, ByteArray.size]
    simp [Builtin.len_, ha0, run_underlying hu, conc, goInt, hs]
  · rename_i n el hu
    simp at h; subst h
    refine ⟨?_, trivial⟩
    simp [Builtin.len_, ha0, run_underlying hu, goInt]
    simp [conc]
  · rename_i arr hu
    split at h
    · rename_i n el hu2
      simp at h; subst h
      refine ⟨?_, trivial⟩
      simp [Builtin.len_, ha0, run_underlying hu, run_underlying hu2, goInt]
      simp [conc]
    · simp at h
  · rename_i hu
    simp at h; subst h
    refine ⟨?_, trivial⟩
    simp [Builtin.len_, ha0, run_underlying hu, conc, goInt]
  · rename_i hu
    simp at h; subst h
    refine ⟨?_, trivial⟩
    simp [Builtin.len_, ha0, run_underlying hu, conc, goInt]
  · rename_i hu
    simp at h; subst h
    refine ⟨?_, trivial⟩
    simp [Builtin.len_, ha0, run_underlying hu, conc, goInt]
  · rename_i hu
    simp at h; subst h
    refine ⟨?_, trivial⟩
    simp [Builtin.len_, ha0, run_underlying hu, conc, goInt]
  · rename_i r hu
    split at h
    · rename_i es clock ho
      simp at h; subst h
      obtain ⟨arr, h1, h2, h3, h4⟩ := map_of_rel hr gx ho
      refine ⟨?_, trivial⟩
      have : arr.size = es.length := by rw [← Array.length_toList, h3, List.length_map]
      simp [Builtin.len_, ha0, run_underlying hu, conc, goInt, h1, this]
    · simp at h
  · simp at h
theorem aCap_sound {t : Nat} {ats : Array TypeId} {ty : TypeId} {x v : AV} {rest : List TypeId} (ha : ats.toList = t :: rest) (h : aCap C t x = some v) :
    (Builtin.cap_ ats ty #[conc φ x]).run C.P w = .ok (conc φ v) w ∧ good D v := by
  have ha0 : ats[0]? = some t := by rw [← Array.getElem?_toList, ha]; rfl
  unfold aCap at h
  split at h <;> (try simp only [intR_eq] at h)
  · rename_i hu
    simp at h; subst h
    refine ⟨?_, trivial⟩
    simp [Builtin.cap_, ha0, run_underlying hu, conc, goInt]
  · rename_i hu
    simp at h; subst h
    refine ⟨?_, trivial⟩
    simp [Builtin.cap_, ha0, run_underlying hu, conc, goInt]
  · simp at h
theorem aMax_sound : ∀ (l : List AV) (x v : AV), aMM true x l = some v → ((concs φ l).foldlM Builtin.max2 (conc φ x)).run C.P w = .ok (conc φ v) w ∧ (good D x → good D v) := by
  intro l
  induction l with
  | nil => intro x v h; cases x <;> simp [aMM] at h <;> subst h <;> simp [concs]
  | cons y l ih =>
    intro x v h
    unfold aMM at h
    split at h
    · rename_i h0; simp at h0
    · rename_i k a k' b l' heq
      simp only [List.cons.injEq] at heq
      obtain ⟨rfl, rfl⟩ := heq
      obtain ⟨h1, h2⟩ := ih _ _ h
      refine ⟨?_, fun _ => h2 trivial⟩
      simp only [concs, List.foldlM_cons, Sem.run_bind, conc, Builtin.max2, Sem.run_pure, Result.andThen_ok]
      simp only [cnd_true, intLt_eq, cnd_ite, decide_eq_true_eq, conc] at h1
      exact h1
    · simp at h
theorem aMin_sound : ∀ (l : List AV) (x v : AV), aMM false x l = some v → ((concs φ l).foldlM Builtin.min2 (conc φ x)).run C.P w = .ok (conc φ v) w ∧ (good D x → good D v) := by
  intro l
  induction l with
  | nil => intro x v h; cases x <;> simp [aMM] at h <;> subst h <;> simp [concs]
  | cons y l ih =>
    intro x v h
    unfold aMM at h
    split at h
    · rename_i h0; simp at h0
    · rename_i k a k' b l' heq
      simp only [List.cons.injEq] at heq
      obtain ⟨rfl, rfl⟩ := heq
      obtain ⟨h1, h2⟩ := ih _ _ h
      refine ⟨?_, fun _ => h2 trivial⟩
      simp only [concs, List.foldlM_cons, Sem.run_bind, conc, Builtin.min2, Sem.run_pure, Result.andThen_ok]
      simp only [cnd_false, intLt_eq, cnd_ite, decide_eq_true_eq, conc] at h1
      exact h1
    · simp at h
end
end Go.AE

namespace Go.AE
open Go.RowKit (Below)
section
variable {C : Cfg} {φ : Phi} {D : Nat → Prop} {S : Tr AObj} {nx B : Nat} {w : World}

theorem Ev.mono {ρ : Operand → Value} {ρ' : Operand → Option AV} {l l' : List Operand} (h : Ev φ D ρ ρ' l) (hs : ∀ x ∈ l', x ∈ l) : Ev φ D ρ ρ' l' := fun x hx v hv => h x (hs x hx) v hv
theorem ev_opt {ρ : Operand → Value} {ρ' : Operand → Option AV} {o : Option Operand} {r : Option AV} (hρ : Ev φ D ρ ρ' o.toList) (h : optEval ρ' o = some r) : o.map ρ = r.map (conc φ) := by
  cases o with
  | none => simp [optEval] at h; subst h; rfl
  | some x =>
    simp only [optEval] at h
    split at h
    · rename_i v hv
      simp at h; subst h
      simp [(hρ x (by simp) v hv).1]
    · simp at h
set_option maxHeartbeats 1000000 in
theorem aLight_sound (hr : HRel C φ D S nx B w) {oper : Oper} {ρ : Operand → Value} {ρ' : Operand → Option AV} {v : AV} (hρ : Ev φ D ρ ρ' oper.op.operands.toList)
    (h : aLight oper.op C S ρ' = some v) : Ans φ D C.P w (execOp ρ oper) v := by
  obtain ⟨dst, op, type, pos, after, guard⟩ := oper
  cases op <;> simp only [aLight] at h <;> (try (cases h; done)) <;> simp only [execOp] <;> simp only [Op.operands] at hρ
  case build t parts =>
    refine ans_of ?_
    unfold lBuild at h
    split at h
    · rename_i ps hps
      obtain ⟨h1, h2⟩ := evalParts_of (by simpa using hρ) hps
      have := aBuild_sound (φ := φ) (w := w) h2 h
      rw [← h1] at this
      have e : (parts.map fun x => (x.1, ρ x.2)) = (parts.toList.map fun x => (x.1, ρ x.2)).toArray := by apply Array.ext'; simp
      rw [e]; exact this
    · simp at h
  case binOp op t x y yt => exact ans_of (lBin_sound hr (by simpa using hρ) h)
  case unOp op t x =>
    refine ans_of ?_
    unfold lUn at h
    split at h
    · rename_i a ha
      rw [(hρ x (by simp) a ha).1]
      exact aUn_sound h
    · simp at h
  case convert s d x => exact ans_of (lConv_sound hr (by simpa using hρ) h)
  case makeInterface t x => exact ans_of (lIface_sound (by simpa using hρ) h)
  case makeFunc fn first captured =>
    refine ans_of ?_
    unfold lFunc at h
    split at h
    · rename_i a b ha hb
      split at h
      · simp at h; subst h
        obtain ⟨a1, a2⟩ := args_of (hρ.mono (by simp; intro x hx; exact .inl hx)) ha
        obtain ⟨b1, b2⟩ := args_of (hρ.mono (by simp; intro x hx; exact .inr hx)) hb
        refine ⟨?_, trivial, a2, b2⟩
        simp [Instr.makeFunc, a1, b1, conc, cFn]
      · simp at h
    · simp at h
  case slice t x lo hi mx =>
    refine ans_of ?_
    unfold lSlice at h
    split at h
    · rename_i a l h' m ha hl hh hm
      have h1 := hρ x (by simp) a ha
      have h2 := ev_opt (hρ.mono (by simp; intro x hx; exact .inr (.inl hx))) hl
      have h3 := ev_opt (hρ.mono (by simp; intro x hx; exact .inr (.inr (.inl hx)))) hh
      have h4 := ev_opt (hρ.mono (by simp; intro x hx; exact .inr (.inr (.inr hx)))) hm
      rw [h1.1, h2, h3, h4]
      exact aSlice_sound hr h1.2 h
    · simp at h
  case field t x f => exact ans_of (lField_sound (by simpa using hρ) h)
  case index t x i =>
    refine ans_of ?_
    unfold lIndex at h
    split at h
    · rename_i a b ha hb
      have h1 := hρ x (by simp) a ha
      rw [h1.1, (hρ i (by simp) b hb).1]
      exact aIndex_sound h1.2 h
    · simp at h
  case lookup t m k ok =>
    refine ans_of ?_
    unfold lLookup at h
    split at h
    · rename_i a b ha hb
      have h1 := hρ m (by simp) a ha
      have h2 := hρ k (by simp) b hb
      rw [h1.1, h2.1]
      exact aLookup_sound hr h1.2 h2.2 h
    · simp at h
  case entry it => exact ans_of (lEntry_sound hr (by simpa using hρ) h)
  case typeAssert x t asserted ok => exact ans_of (lAssert_sound (by simpa using hρ) h)
  case call c =>
    unfold lCall at h
    split at h
    · rename_i b args ats
      simp only [Call.operands] at hρ
      have hρ' : Ev φ D ρ ρ' args.toList := hρ.mono (by simp)
      unfold lBuiltin at h
      split at h
      · rename_i x hx
        obtain ⟨a1, a2⟩ := args_of hρ' hx
        split at h
        · rename_i t rest ha
          obtain ⟨h1, h2⟩ := aLen_sound (ty := type) hr ha a2.1 h
          refine ⟨?_, h2⟩
          simp [resolve, invoke, builtin, a1, concs, h1]
        · simp at h
      · rename_i x hx
        obtain ⟨a1, a2⟩ := args_of hρ' hx
        split at h
        · rename_i t rest ha
          obtain ⟨h1, h2⟩ := aCap_sound (φ := φ) (D := D) (w := w) (ty := type) ha h
          refine ⟨?_, h2⟩
          simp [resolve, invoke, builtin, a1, concs, h1]
        · simp at h
      · rename_i x l hx
        obtain ⟨a1, a2⟩ := args_of hρ' hx
        obtain ⟨h1, h2⟩ := aMax_sound (C := C) (φ := φ) (D := D) (w := w) l x v h
        refine ⟨?_, h2 a2.1⟩
        simp [resolve, invoke, builtin, Builtin.max_, a1, concs, h1]
      · rename_i x l hx
        obtain ⟨a1, a2⟩ := args_of hρ' hx
        obtain ⟨h1, h2⟩ := aMin_sound (C := C) (φ := φ) (D := D) (w := w) l x v h
        refine ⟨?_, h2 a2.1⟩
        simp [resolve, invoke, builtin, Builtin.min_, a1, concs, h1]
      · simp at h
    · simp at h

/-- an operation made ready, of the kind that only reads -/
theorem light_sound (hr : HRel C φ D S nx B w) {oper : Oper} {ρ : Operand → Value} {wr : List (Nat × Nat)} {V : List (Nat × AV)} {T : Tr AV} {c : COp} {v : AV}
    (hρ : Ev φ D ρ (evo wr V T) oper.op.operands.toList) (hc : cOp C wr oper.op = some c) (h : exLight c C S V T = some v) : Ans φ D C.P w (execOp ρ oper) v := by
  have rest : ∀ o, oper.op = o → c = .light wr o → Ans φ D C.P w (execOp ρ oper) v := by
    intro o ho hco
    subst hco; subst ho
    exact aLight_sound hr hρ h
  obtain ⟨dst, op, type, pos, after, guard⟩ := oper
  cases op <;> simp only [cOp] at hc <;> simp only [Op.operands] at hρ
  case move x =>
    split at hc
    · rename_i x' hx
      simp at hc; subst hc
      simp only [exLight, evx_of hx] at h
      obtain ⟨h1, h2⟩ := hρ x (by simp) v h
      exact ⟨by simp [execOp, h1], h2⟩
    · simp at hc
  case assign x =>
    split at hc
    · rename_i x' hx
      simp at hc; subst hc
      simp only [exLight, evx_of hx] at h
      obtain ⟨h1, h2⟩ := hρ x (by simp) v h
      exact ⟨by simp [execOp, h1], h2⟩
    · simp at hc
  case pick c' a b =>
    split at hc
    · rename_i c'' a' b' hcc ha hb
      simp at hc; subst hc
      simp only [exLight, evx_of hcc] at h
      split at h
      · rename_i u hu
        obtain ⟨h1, h2⟩ := hρ c' (by simp) u hu
        unfold xPick at h
        split at h
        · rename_i t
          rw [evx_of ha, evx_of hb] at h
          simp only [execOp, h1, conc]
          cases t
          · obtain ⟨h3, h4⟩ := hρ b (by simp) v (by simpa using h)
            exact ⟨by simp [asBool, h3], h4⟩
          · obtain ⟨h3, h4⟩ := hρ a (by simp) v (by simpa using h)
            exact ⟨by simp [asBool, h3], h4⟩
        · simp at h
      · simp at h
    · simp at hc
  case load t a =>
    split at hc
    · rename_i a' s ha h1 h2
      simp at hc; subst hc
      simp only [exLight, evx_of ha] at h
      split at h
      · rename_i u hu
        obtain ⟨h3, h4⟩ := hρ a (by simp) u hu
        simp only [execOp, h3]
        exact ans_of (aLdN_sound hr h1 h2 h4 h)
      · simp at h
    · rename_i a' ha h1
      simp at hc; subst hc
      simp only [exLight, evx_of ha] at h
      split at h
      · rename_i u hu
        obtain ⟨h3, h4⟩ := hρ a (by simp) u hu
        simp only [execOp, h3]
        exact ans_of (aLd1_sound hr h1 h4 h)
      · simp at h
    · simp at hc
  case fieldAddr s x f =>
    split at hc
    · rename_i fields x' hu hx
      rw [nth_eq] at hc
      split at hc
      · rename_i fd hf
        split at hc
        · rename_i z hz
          simp only [cnd_none'] at hc
          obtain ⟨hz0, hc⟩ := hc
          simp at hc; subst hc
          simp only [exLight, evx_of hx] at h
          split at h
          · rename_i u hu'
            obtain ⟨h3, h4⟩ := hρ x (by simp) u hu'
            simp only [execOp, h3]
            exact ans_of (fieldAt_sound hu hf hz (by intro e; subst e; simp at hz0) h4 h)
          · simp at h
        · simp at hc
      · simp at hc
    · simp at hc
  case indexAddr t x i =>
    split at hc
    · rename_i n elem x' i' hu hx hi
      split at hc
      · rename_i sz hz
        simp at hc; subst hc
        simp only [exLight, evx_of hx, evx_of hi] at h
        split at h
        · rename_i u hu'
          split at h
          · rename_i j hj
            split at h
            · rename_i n' hn
              obtain ⟨k, rfl⟩ := natOf_some hn
              obtain ⟨h3, h4⟩ := hρ x (by simp) u hu'
              obtain ⟨h5, h6⟩ := hρ i (by simp) _ hj
              simp only [execOp, h3, h5, conc]
              exact ans_of (ixA_sound hu hz h4 h)
            · simp at h
          · simp at h
        · simp at h
      · simp at hc
    · rename_i elem x' i' hu hx hi
      split at hc
      · rename_i sz hz
        simp at hc; subst hc
        simp only [exLight, evx_of hx, evx_of hi] at h
        split at h
        · rename_i u hu'
          split at h
          · rename_i j hj
            split at h
            · rename_i n' hn
              obtain ⟨k, rfl⟩ := natOf_some hn
              obtain ⟨h3, h4⟩ := hρ x (by simp) u hu'
              obtain ⟨h5, h6⟩ := hρ i (by simp) _ hj
              simp only [execOp, h3, h5, conc]
              exact ans_of (ixS_sound hu hz h4 h)
            · simp at h
          · simp at h
        · simp at h
      · simp at hc
    · simp at hc
  case nilCheck x =>
    split at hc
    · rename_i x' hx
      simp at hc; subst hc
      simp only [exLight, evx_of hx] at h
      split at h
      · rename_i u hu
        obtain ⟨h3, h4⟩ := hρ x (by simp) u hu
        obtain ⟨rfl, h5⟩ := xNil_sound (C := C) (φ := φ) (w := w) h4 h
        exact ⟨h5 _ ρ x rfl h3, h4⟩
      · simp at h
    · simp at hc
  case binOp op t x y yt =>
    rw [cnd_ite] at hc
    split at hc
    · split at hc
      · rename_i x' y' hx hy
        simp at hc; subst hc
        simp only [exLight, evx_of hx, evx_of hy] at h
        split at h
        · rename_i a ha
          split at h
          · rename_i b hb
            obtain ⟨h1, h2⟩ := hρ x (by simp) a ha
            obtain ⟨h3, h4⟩ := hρ y (by simp) b hb
            obtain ⟨h5, h6, k, i, k', j, rfl, rfl⟩ := aIBin_sound (C := C) (φ := φ) (D := D) (w := w) t h
            simp only [execOp, h1, h3]
            refine ans_of ⟨?_, h6⟩
            rw [Sem.run_bind, eqGuard_sound (by simp [eqOk])]
            exact h5
          · simp at h
        · simp at h
      · simp at hc
    · simp at hc; exact rest _ rfl hc.symm
  case extract x i =>
    split at hc
    · rename_i x' hx
      simp at hc; subst hc
      simp only [exLight, evx_of hx] at h
      split at h
      · rename_i u hu
        obtain ⟨h3, h4⟩ := hρ x (by simp) u hu
        simp only [execOp, h3]
        exact ans_of (xExt_sound h4 h)
      · simp at h
    · simp at hc
  case convert s d x =>
    rw [cnd_ite] at hc
    split at hc
    · simp at hc; subst hc; simp [exLight] at h
    · simp at hc; exact rest _ rfl hc.symm
  case store t a x =>
    split at hc
    · simp at hc; subst hc; simp [exLight] at h
    · simp at hc
  case makeMap t r => cases r <;> simp [cOp] at hc <;> subst hc <;> simp [exLight] at h
  case call cl =>
    obtain ⟨callee, args, ats⟩ := cl
    cases callee with
    | builtin b =>
      cases b <;> simp [cOp] at hc <;> first
        | exact rest _ rfl hc.symm
        | (subst hc; simp [exLight] at h)
    | value f =>
      cases f <;> simp [cOp] at hc
      all_goals first
        | (subst hc; simp [exLight] at h; done)
        | (split at hc
           · simp at hc; subst hc; simp [exLight] at h
           · simp at hc)
    | invoke r m => simp [cOp] at hc; subst hc; simp [exLight] at h
  all_goals (simp at hc; first | exact rest _ rfl hc.symm | (subst hc; simp [exLight] at h))
end
end Go.AE
