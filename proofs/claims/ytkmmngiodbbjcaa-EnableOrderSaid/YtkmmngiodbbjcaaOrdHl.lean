/- A logic of calls over the evaluator, shown to speak of the model; no condition. -/
import Derived.Test.YtkmmngiodbbjcaaOrdEvD
/-! # A logic of calls over the evaluator's machine: what is told of a call, by propositions -/
namespace Go.AE
noncomputable section
open Go.RowKit (Below)

abbrev VK := AV → Tr AObj → Nat → Prop
abbrev TF := Nat → Option AV
abbrev HK := TF → Tr AObj → Nat → Prop

def optP {α : Type} (o : Option α) (κ : α → Prop) : Prop := Option.rec (motive := fun _ => Prop) False (fun a => κ a) o
theorem optP_some {α : Type} (a : α) (κ : α → Prop) : optP (some a) κ = κ a := rfl
theorem optP_of {α : Type} {o : Option α} {κ : α → Prop} {a : α} (h : o = some a) (k : κ a) : optP o κ := by subst h; exact k
theorem optP_iff {α : Type} {o : Option α} {κ : α → Prop} : optP o κ ↔ ∃ a, o = some a ∧ κ a := by
  cases o with
  | none => simp [optP]
  | some a => simp [optP]
/-- an operation's value, if it has one -/
structure optR {α : Type} (o : Option α) (κ : α → Prop) : Prop where
  out : optP o κ
theorem optR_eq {α : Type} (o : Option α) (κ : α → Prop) : optR o κ = optP o κ := propext ⟨fun h => h.out, fun h => ⟨h⟩⟩
theorem optR_some {α : Type} (a : α) (κ : α → Prop) : optR (some a) κ = κ a := optR_eq _ _
theorem optR_of {α : Type} {o : Option α} {κ : α → Prop} {a : α} (h : o = some a) (k : κ a) : optR o κ := ⟨optP_of h k⟩
theorem optR_iff {α : Type} {o : Option α} {κ : α → Prop} : optR o κ ↔ ∃ a, o = some a ∧ κ a := by rw [optR_eq]; exact optP_iff
/-- by a bool -/
def boolB (v : AV) (a b : Prop) : Prop := AV.rec (motive_1 := fun _ => Prop) (motive_2 := fun _ => Prop)
  (fun t => (t = true → a) ∧ (t = false → b)) (fun _ _ => False) (fun _ => False) (fun _ _ => False) False (fun _ _ _ _ => False) (fun _ _ _ _ => False) False (fun _ => False) False
  (fun _ _ _ _ _ => False) False (fun _ _ _ => False) False (fun _ _ => False) (fun _ _ => False) False (fun _ _ _ _ => False) v
structure boolP (v : AV) (a b : Prop) : Prop where
  out : boolB v a b
theorem boolP_of {t : Bool} {a b : Prop} (h1 : t = true → a) (h2 : t = false → b) : boolP (.bool t) a b := ⟨⟨h1, h2⟩⟩
theorem boolP_inv {v : AV} {a b : Prop} (h : boolP v a b) : ∃ t, v = .bool t ∧ (t = true → a) ∧ (t = false → b) := by
  have h := h.out
  cases v with
  | bool t => exact ⟨t, rfl, h⟩
  | _ => exact h.elim
/-- by a guard's value: is it the one that is wanted? -/
def guardB (want : Bool) (v : AV) (a b : Prop) : Prop := AV.rec (motive_1 := fun _ => Prop) (motive_2 := fun _ => Prop)
  (fun t => (t = want → a) ∧ (t = (!want) → b)) (fun _ _ => b) (fun _ => b) (fun _ _ => b) b (fun _ _ _ _ => b) (fun _ _ _ _ => b) b (fun _ => b) b
  (fun _ _ _ _ _ => b) b (fun _ _ _ => b) b (fun _ _ => b) (fun _ _ => b) b (fun _ _ _ _ => b) v

structure guardP (want : Bool) (v : AV) (a b : Prop) : Prop where
  out : guardB want v a b
theorem guardP_eq (want : Bool) (v : AV) (a b : Prop) : guardP want v a b = guardB want v a b := propext ⟨fun h => h.out, fun h => ⟨h⟩⟩
/-! ### Where ways meet again -/
structure joinV (J : VK) (body : VK → Prop) : Prop where
  out : body J
theorem joinV_eq (J : VK) (body : VK → Prop) : joinV J body = body J := propext ⟨fun h => h.out, fun h => ⟨h⟩⟩
structure joinH (J : HK) (body : HK → Prop) : Prop where
  out : body J
theorem joinH_eq (J : HK) (body : HK → Prop) : joinH J body = body J := propext ⟨fun h => h.out, fun h => ⟨h⟩⟩
structure joinA (J : AV → Prop) (body : (AV → Prop) → Prop) : Prop where
  out : body J
theorem joinA_eq (J : AV → Prop) (body : (AV → Prop) → Prop) : joinA J body = body J := propext ⟨fun h => h.out, fun h => ⟨h⟩⟩
structure joinL (J : AV → Tr AObj → Prop) (body : (AV → Tr AObj → Prop) → Prop) : Prop where
  out : body J
theorem joinL_eq (J : AV → Tr AObj → Prop) (body : (AV → Tr AObj → Prop) → Prop) : joinL J body = body J := propext ⟨fun h => h.out, fun h => ⟨h⟩⟩
structure joinQ (J : Prop) (body : Prop → Prop) : Prop where
  out : body J
theorem joinQ_eq (J : Prop) (body : Prop → Prop) : joinQ J body = body J := propext ⟨fun h => h.out, fun h => ⟨h⟩⟩
theorem joinV_of {J : VK} {body : VK → Prop} (I : VK) (h1 : ∀ j : VK, (∀ u S nx, I u S nx → j u S nx) → body j) (h2 : ∀ u S nx, I u S nx → J u S nx) : joinV J body := ⟨h1 J h2⟩
theorem joinH_of {J : HK} {body : HK → Prop} (I : HK) (h1 : ∀ j : HK, (∀ T S nx, I T S nx → j T S nx) → body j) (h2 : ∀ T S nx, I T S nx → J T S nx) : joinH J body := ⟨h1 J h2⟩
structure letN (n : Nat) (κ : Nat → Prop) : Prop where
  out : κ n
theorem letN_eq (n : Nat) (κ : Nat → Prop) : letN n κ = (κ n) := propext ⟨fun h => h.out, fun h => ⟨h⟩⟩
/-- a new block -/
structure mkP (C : Cfg) (S : Tr AObj) (nx : Nat) (v : AV) (ob : AObj) (κ : VK) : Prop where
  out : κ v (hset C S nx (some ob)) (nx + 1)
theorem mkP_eq (C : Cfg) (S : Tr AObj) (nx : Nat) (v : AV) (ob : AObj) (κ : VK) : mkP C S nx v ob κ = (κ v (hset C S nx (some ob)) (nx + 1)) := propext ⟨fun h => h.out, fun h => ⟨h⟩⟩
structure mkAtP (C : Cfg) (S : Tr AObj) (b : Nat) (v : AV) (ob : AObj) (κ : AV → Tr AObj → Prop) : Prop where
  out : κ v (hset C S b (some ob))
theorem mkAtP_eq (C : Cfg) (S : Tr AObj) (b : Nat) (v : AV) (ob : AObj) (κ : AV → Tr AObj → Prop) : mkAtP C S b v ob κ = (κ v (hset C S b (some ob))) := propext ⟨fun h => h.out, fun h => ⟨h⟩⟩
structure boxAtP (C : Cfg) (S : Tr AObj) (b : Nat) (a : AV) (κ : AV → Tr AObj → Prop) : Prop where
  out : κ (.ptr b 0) (hset C S b (some (.cells (Tr.ofList a.cells 0 .nil) a.cells.length .own)))
theorem boxAtP_eq (C : Cfg) (S : Tr AObj) (b : Nat) (a : AV) (κ : AV → Tr AObj → Prop) : boxAtP C S b a κ = (κ (.ptr b 0) (hset C S b (some (.cells (Tr.ofList a.cells 0 .nil) a.cells.length .own)))) := propext ⟨fun h => h.out, fun h => ⟨h⟩⟩
structure boxP (C : Cfg) (S : Tr AObj) (nx : Nat) (a : AV) (κ : VK) : Prop where
  out : κ (.ptr nx 0) (hset C S nx (some (.cells (Tr.ofList a.cells 0 .nil) a.cells.length .own))) (nx + 1)

theorem boxP_eq (C : Cfg) (S : Tr AObj) (nx : Nat) (a : AV) (κ : VK) : boxP C S nx a κ = (κ (.ptr nx 0) (hset C S nx (some (.cells (Tr.ofList a.cells 0 .nil) a.cells.length .own))) (nx + 1)
) := propext ⟨fun h => h.out, fun h => ⟨h⟩⟩
/-! ### What a caller's frames go on with -/
section
variable (C : Cfg) (w0 : World) (f0 : Nat) (cs0 : List Frame) (v : AV)
def BackOk (cs : List AFrame) : VK := fun u S nx => back (allGood C w0 f0 cs0 v) false cs u S nx = some v
def RaiseOk (cs : List AFrame) : VK := fun u S nx => match cs with
  | c :: rest => raiseIn (allGood C w0 f0 cs0 v) c rest [⟨u, false⟩] S nx = some v
  | [] => False
end
/-- a call of f: it returns a value, Q of it, or panics with one, R of it -/
def CallOk (C : Cfg) (f : Nat) (args : List AV) (S : Tr AObj) (nx : Nat) (Q R : VK) : Prop :=
  ∀ (w0 : World) (φ0 : Phi) (D0 : Nat → Prop) (_ : Env C w0 φ0 D0) (f0 : Nat) (cs0 : List Frame) (v : AV) (_ : AV.same 30 v v = true) (cs : List AFrame),
    (∀ u S' nx', Q u S' nx' → BackOk C w0 f0 cs0 v cs u S' nx') → (∀ u S' nx', R u S' nx' → RaiseOk C w0 f0 cs0 v cs u S' nx') →
    enterK (allGood C w0 f0 cs0 v) C f args false cs S nx = some v
theorem CallOk.mono {C : Cfg} {f : Nat} {args : List AV} {S : Tr AObj} {nx : Nat} {Q R Q' R' : VK} (h : CallOk C f args S nx Q R) (hQ : ∀ u S nx, Q u S nx → Q' u S nx) (hR : ∀ u S nx, R u S nx → R' u S nx) :
    CallOk C f args S nx Q' R' :=
  fun w0 φ0 D0 env f0 cs0 v hs cs h1 h2 => h w0 φ0 D0 env f0 cs0 v hs cs (fun u S nx q => h1 u S nx (hQ u S nx q)) (fun u S nx q => h2 u S nx (hR u S nx q))
/-- a call, known or not -/
structure callP (C : Cfg) (f : Nat) (args : List AV) (S : Tr AObj) (nx : Nat) (κ ρ : VK) : Prop where
  out : (∃ u, C.orc f args = some u ∧ κ u S nx) ∨ (C.orc f args = none ∧ (∃ fn c, C.P.funcs[f]? = some fn ∧ fn.body = some c) ∧ CallOk C f args S nx κ ρ)
/-- what an operation on memory comes to -/
structure resP (o : Option ARes) (S : Tr AObj) (nx : Nat) (κ : VK) : Prop where
  out : match o with
  | some (.val v) => κ v S nx
  | some (.vals v S' nx') => κ v S' nx'
  | _ => False
theorem resP_eq (o : Option ARes) (S : Tr AObj) (nx : Nat) (κ : VK) : resP o S nx κ = (match o with
  | some (.val v) => κ v S nx
  | some (.vals v S' nx') => κ v S' nx'
  | _ => False) := propext ⟨fun h => h.out, fun h => ⟨h⟩⟩
theorem resP_val {o : Option ARes} {S : Tr AObj} {nx : Nat} {κ : VK} {v : AV} (h : o = some (.val v)) (k : κ v S nx) : resP o S nx κ := by subst h; exact ⟨k⟩
theorem resP_vals {o : Option ARes} {S S' : Tr AObj} {nx nx' : Nat} {κ : VK} {v : AV} (h : o = some (.vals v S' nx')) (k : κ v S' nx') : resP o S nx κ := by subst h; exact ⟨k⟩
structure forkP (o : Option ARes) (S : Tr AObj) (nx : Nat) (κ : VK) : Prop where
  out : match o with
  | some (.val v) => κ v S nx
  | some (.vals v S' nx') => κ v S' nx'
  | some (.fork l) => l ≠ [] ∧ ∀ u S', (u, S') ∈ l → κ u S' nx
  | _ => False
theorem forkP_eq (o : Option ARes) (S : Tr AObj) (nx : Nat) (κ : VK) : forkP o S nx κ = (match o with
  | some (.val v) => κ v S nx
  | some (.vals v S' nx') => κ v S' nx'
  | some (.fork l) => l ≠ [] ∧ ∀ u S', (u, S') ∈ l → κ u S' nx
  | _ => False) := propext ⟨fun h => h.out, fun h => ⟨h⟩⟩
def aresP (C : Cfg) (o : Option ARes) (S : Tr AObj) (nx : Nat) (κ ρ : VK) : Prop := match o with
  | some (.val v) => κ v S nx
  | some (.vals v S' nx') => κ v S' nx'
  | some (.enter f args) => CallOk C f args S nx κ ρ
  | some (.known _ _ v) => κ v S nx
  | some (.panic v) => ρ v S nx
  | some (.fork l) => l ≠ [] ∧ ∀ u S', (u, S') ∈ l → κ u S' nx
  | _ => False

/-! ### Operands -/
def evP (x : CX) (V : List (Nat × AV)) (T : TF) (κ : AV → Prop) : Prop :=
  CX.rec (motive := fun _ => Prop) (fun j => optP (assocN V j) κ) (fun n => optP (T n) κ) (fun a => κ a) x
def evsP (V : List (Nat × AV)) (T : TF) (l : List CX) : (List AV → Prop) → Prop :=
  List.rec (motive := fun _ => (List AV → Prop) → Prop) (fun κ => κ []) (fun x _ ih κ => evP x V T fun a => ih fun r => κ (a :: r)) l
def opdP (srcs : List (Nat × Nat)) (V : List (Nat × AV)) (T : TF) (o : Operand) (κ : AV → Prop) : Prop := match o with
  | .tmp t => (match assocN srcs t with | some j => optP (assocN V j) κ | none => optP (T t) κ)
  | .const v => optP (ofV v) κ
  | .global g => κ (.ptr g 0)
  | .func f => κ (.func (.func f) [] [])
def opdsP (srcs : List (Nat × Nat)) (V : List (Nat × AV)) (T : TF) (l : List Operand) : (List AV → Prop) → Prop :=
  List.rec (motive := fun _ => (List AV → Prop) → Prop) (fun κ => κ []) (fun x _ ih κ => opdP srcs V T x fun a => ih fun r => κ (a :: r)) l
def partsP (srcs : List (Nat × Nat)) (V : List (Nat × AV)) (T : TF) (l : List (Nat × Operand)) : (List (Nat × AV) → Prop) → Prop :=
  List.rec (motive := fun _ => (List (Nat × AV) → Prop) → Prop) (fun κ => κ []) (fun x _ ih κ => opdP srcs V T x.2 fun a => ih fun r => κ ((x.1, a) :: r)) l
def oopdP (srcs : List (Nat × Nat)) (V : List (Nat × AV)) (T : TF) (o : Option Operand) (κ : Option AV → Prop) : Prop := match o with
  | none => κ none
  | some x => opdP srcs V T x fun a => κ (some a)

/-! ### Operations, by the values of their operands -/
def o0 : Operand := .global 0
def o1 : Operand := .global 1
def o2 : Operand := .global 2
def one1 (a : AV) : Operand → Option AV := fun _ => some a
def two (a b : AV) : Operand → Option AV := fun o => match o with | .global 0 => some a | _ => some b
def three (a b c : AV) : Operand → Option AV := fun o => match o with | .global 0 => some a | .global 1 => some b | _ => some c
def ixAV (n sz : Nat) (a i : AV) : Option AV := match natOf i with | some i => xIxA n sz a i | none => none
def ixSV (sz : Nat) (a i : AV) : Option AV := match natOf i with | some i => xIxS sz a i | none => none
def fieldV (C : Cfg) (t f : Nat) (a : AV) : Option AV := lField C t o0 f .nil (one1 a)
def convV (C : Cfg) (S : Tr AObj) (s d : Nat) (a : AV) : Option AV := lConv C s d o0 S (one1 a)
def ifaceV (C : Cfg) (t : Nat) (a : AV) : Option AV := lIface C t o0 .nil (one1 a)
def assertV (C : Cfg) (t : Nat) (ok : Bool) (a : AV) : Option AV := lAssert C o0 t ok .nil (one1 a)
def entryV (C : Cfg) (S : Tr AObj) (a : AV) : Option AV := lEntry C o0 S (one1 a)
def builtV (C : Cfg) (S : Tr AObj) (b : Builtin) (ats : List TypeId) (vs : List AV) : Option AV := match b, vs with
  | .len, [x] => (match ats with | t :: _ => aLen C S t x | _ => none)
  | .cap, [x] => (match ats with | t :: _ => aCap C t x | _ => none)
  | .max, x :: l => aMM true x l
  | .min, x :: l => aMM false x l
  | _, _ => none
def stV (C : Cfg) (S : Tr AObj) (s : Nat) (a v : AV) : Option (Tr AObj) := match a with
  | .ptr b o => cnd (Nat.beq v.cells.length s && Nat.blt 0 s) (aWrite C S b o v.cells) none
  | _ => none
def hbuiltV (C : Cfg) (S : Tr AObj) (nx : Nat) (b : Builtin) (ats : List TypeId) (vs : List AV) : Option ARes := match b, vs with
  | .append, [s, x] => (match ats with
    | st :: xt :: _ => (match C.P.underlying xt with
      | some (.int _) => (match natOf x with | some n => aGrow C S nx st s n | none => none)
      | some (.slice _) => aAppend C S nx st s x
      | some .string => aAppend C S nx st s x
      | _ => none)
    | _ => none)
  | .copy, [d, x] => (match ats with | st :: _ => aCopy C S nx st d x | _ => none)
  | .clear, [x] => (match ats with | t :: _ => aClear C S nx t x | _ => none)
  | .delete, [m, k] => (match ats with | t :: _ => aDelete C S nx t m k | _ => none)
  | _, _ => none
structure invokeP (C : Cfg) (fv : AV) (as : List AV) (S : Tr AObj) (nx : Nat) (κ ρ : VK) : Prop where
  out : match fv with
  | .func fn first captured => (match fn with | .func f => callP C f ((first ++ as) ++ captured) S nx κ ρ | _ => False)
  | _ => False

def sliceV (C : Cfg) (t len : Nat) (ps : List (Nat × AV)) (b : Nat) : Option (AV × AObj) := match C.P.underlying t with
  | some (.slice elem) => (match szOf C elem, zeroOf C elem with
    | some s, some z => cnd (Nat.ble (len * s) 16777216 && Nat.beq z.cells.length s) ((match fillL (fun i => some (i * s, s)) (repl len z.cells) ps with
         | some cs => some (AV.slice b 0 len len, AObj.cells (Tr.ofList cs 0 .nil) cs.length .own)
         | none => none)) <| none
    | _, _ => none)
  | _ => none
structure panicP (ρ : VK) (a : AV) (S : Tr AObj) (nx : Nat) : Prop where
  out : match a with | .iface t v => ρ (.iface t v) S nx | _ => False
theorem panicP_eq (ρ : VK) (a : AV) (S : Tr AObj) (nx : Nat) : panicP ρ a S nx = (match a with | .iface t v => ρ (.iface t v) S nx | _ => False) := propext ⟨fun h => h.out, fun h => ⟨h⟩⟩
structure methodP (C : Cfg) (rv : AV) (name : String) (as : List AV) (S : Tr AObj) (nx : Nat) (κ ρ : VK) : Prop where
  out : match rv with
  | .iface t v => aresP C (aMethod C S t v name as) S nx κ ρ
  | _ => False
theorem methodP_eq (C : Cfg) (rv : AV) (name : String) (as : List AV) (S : Tr AObj) (nx : Nat) (κ ρ : VK) : methodP C rv name as S nx κ ρ = (match rv with
  | .iface t v => aresP C (aMethod C S t v name as) S nx κ ρ
  | _ => False) := propext ⟨fun h => h.out, fun h => ⟨h⟩⟩
/-- what only reads -/
def lightOpP (srcs : List (Nat × Nat)) (o : Op) : Cfg → Tr AObj → List (Nat × AV) → TF → (AV → Prop) → Prop := match o with
  | .build t parts => fun C _ V T κ => partsP srcs V T parts.toList fun ps => optR (aBuild C t ps) κ
  | .binOp op t x y _ => fun C S V T κ => opdP srcs V T x fun a => opdP srcs V T y fun b => optR (aBin C S op t (isConstO x || isConstO y) a b) κ
  | .unOp op _ x => fun _ _ V T κ => opdP srcs V T x fun a => optR (aUn op a) κ
  | .convert s d x => fun C S V T κ => opdP srcs V T x fun a => optR (convV C S s d a) κ
  | .makeInterface t x => fun C _ V T κ => opdP srcs V T x fun a => optR (ifaceV C t a) κ
  | .makeFunc fn first captured => fun _ _ V T κ => (match fn with
    | .func f => opdsP srcs V T first.toList fun a => opdsP srcs V T captured.toList fun b => κ (.func (.func f) a b)
    | _ => False)
  | .slice t x lo hi mx => fun C S V T κ => opdP srcs V T x fun a => oopdP srcs V T lo fun l => oopdP srcs V T hi fun h => oopdP srcs V T mx fun m => optR (aSlice C S t a l h m) κ
  | .field t x f => fun C _ V T κ => opdP srcs V T x fun a => optR (fieldV C t f a) κ
  | .index t x i => fun C _ V T κ => opdP srcs V T x fun a => opdP srcs V T i fun b => optR (aIndex C t a b) κ
  | .lookup t m k ok => fun C S V T κ => opdP srcs V T m fun a => opdP srcs V T k fun b => optR (aLookup C S t a b ok) κ
  | .typeAssert x _ t ok => fun C _ V T κ => opdP srcs V T x fun a => optR (assertV C t ok a) κ
  | .entry it => fun C S V T κ => opdP srcs V T it fun a => optR (entryV C S a) κ
  | .call c => fun C S V T κ => (match c with
    | ⟨.builtin b, args, ats⟩ => opdsP srcs V T args.toList fun vs => optR (builtV C S b ats.toList vs) κ
    | _ => False)
  | _ => fun _ _ _ _ _ => False
def lightP (op : COp) : Cfg → Tr AObj → List (Nat × AV) → TF → (AV → Prop) → Prop := match op with
  | .mov x => fun _ _ V T κ => evP x V T κ
  | .pick c a b => fun _ _ V T κ => evP c V T fun c => joinA κ fun κ => boolP c (evP a V T κ) (evP b V T κ)
  | .ld1 a => fun C S V T κ => evP a V T fun a => optR (aLd1 C S a) κ
  | .ldN n a => fun C S V T κ => evP a V T fun a => optR (aLdN C S n a) κ
  | .off d x => fun _ _ V T κ => evP x V T fun a => optR (xOff d a) κ
  | .ixA n sz x i => fun _ _ V T κ => evP x V T fun a => evP i V T fun i => optR (ixAV n sz a i) κ
  | .ixS sz x i => fun _ _ V T κ => evP x V T fun a => evP i V T fun i => optR (ixSV sz a i) κ
  | .nilck x => fun _ _ V T κ => evP x V T fun a => optR (xNil a) κ
  | .ib op x y => fun _ _ V T κ => evP x V T fun a => evP y V T fun b => optR (aIBin op a b) κ
  | .ext i x => fun _ _ V T κ => evP x V T fun a => optR (xExt i a) κ
  | .light srcs o => lightOpP srcs o
  | _ => fun _ _ _ _ _ => False
/-- what makes a new block -/
def makeP (op : COp) : Cfg → Tr AObj → Nat → List (Nat × AV) → TF → VK → Prop := match op with
  | .make srcs o => (match o with
    | .alloc t => fun C S b _ _ κ => optR (mAlloc C t (one1 undef) b) fun r => mkP C S b r.1 r.2 κ
    | .box _ x => fun C S b V T κ => opdP srcs V T x fun a => boxP C S b a κ
    | .buildSlice t len parts => fun C S b V T κ => partsP srcs V T parts.toList fun ps => optR (sliceV C t len ps b) fun r => mkP C S b r.1 r.2 κ
    | .makeMap _ none => fun C S b _ _ κ => mkP C S b (.map b) (.map [] 0) κ
    | _ => fun _ _ _ _ _ _ => False)
  | _ => fun _ _ _ _ _ _ => False
def makeAtP (op : COp) : Cfg → Tr AObj → Nat → List (Nat × AV) → TF → (AV → Tr AObj → Prop) → Prop := match op with
  | .make srcs o => (match o with
    | .alloc t => fun C S b _ _ κ => optR (mAlloc C t (one1 undef) b) fun r => mkAtP C S b r.1 r.2 κ
    | .box _ x => fun C S b V T κ => opdP srcs V T x fun a => boxAtP C S b a κ
    | .buildSlice t len parts => fun C S b V T κ => partsP srcs V T parts.toList fun ps => optR (sliceV C t len ps b) fun r => mkAtP C S b r.1 r.2 κ
    | .makeMap _ none => fun C S b _ _ κ => mkAtP C S b (.map b) (.map [] 0) κ
    | _ => fun _ _ _ _ _ _ => False)
  | _ => fun _ _ _ _ _ _ => False
/-- the rest -/
def heavyP (op : COp) : Cfg → Tr AObj → Nat → List (Nat × AV) → TF → VK → VK → Prop := match op with
  | .st n a v => fun C S nx V T κ _ => evP a V T fun a => evP v V T fun v => optR (stV C S n a v) fun S => κ undef S nx
  | .call f args => fun C S nx V T κ ρ => evsP V T args fun as => callP C f as S nx κ ρ
  | .heavy srcs o => (match o with
    | .mapUpdate t m k x => fun C S nx V T κ _ => opdP srcs V T m fun a => opdP srcs V T k fun b => opdP srcs V T x fun c => resP (aMapSet C S nx t a b c) S nx κ
    | .insert t m k x => fun C S nx V T κ _ => opdP srcs V T m fun a => opdP srcs V T k fun b => opdP srcs V T x fun c => resP (aMapSet C S nx t a b c) S nx κ
    | .mapEntry t m k => fun C S nx V T κ _ => opdP srcs V T m fun a => opdP srcs V T k fun b => resP (hMapEntry C t o0 o1 S nx (two a b)) S nx κ
    | .entryStore _ m s x => fun C S nx V T κ _ => opdP srcs V T m fun a => opdP srcs V T s fun b => opdP srcs V T x fun c => resP (hEntryStore C o0 o1 o2 S nx (three a b c)) S nx κ
    | .makeSlice t l c => fun C S nx V T κ _ => opdP srcs V T l fun a => opdP srcs V T c fun b => resP (hMakeSlice C t o0 o1 S nx (two a b)) S nx κ
    | .makeMap t (some r) => fun C S nx V T κ _ => opdP srcs V T r fun a => resP (hMakeMap C t o0 S nx (one1 a)) S nx κ
    | .convert s d x => fun C S nx V T κ _ => opdP srcs V T x fun a => resP (hStrBytes C s d o0 S nx (one1 a)) S nx κ
    | .range t x => fun C S nx V T κ _ => opdP srcs V T x fun a => resP (hRange C t o0 S nx (one1 a)) S nx κ
    | .next it isString => fun C S nx V T κ _ => opdP srcs V T it fun a => forkP (hNext C o0 isString S nx (one1 a)) S nx κ
    | .panic x => fun _ S nx V T _ ρ => opdP srcs V T x fun a => panicP ρ a S nx
    | .call c => fun C S nx V T κ ρ => (match c with
      | ⟨.value f, args, _⟩ => opdP srcs V T f fun fv => opdsP srcs V T args.toList fun as => invokeP C fv as S nx κ ρ
      | ⟨.builtin b, args, ats⟩ => opdsP srcs V T args.toList fun vs => resP (hbuiltV C S nx b ats.toList vs) S nx κ
      | ⟨.invoke r name, args, _⟩ => opdP srcs V T r fun rv => opdsP srcs V T args.toList fun as => methodP C rv name as S nx κ ρ)
    | _ => fun _ _ _ _ _ _ _ => False)
  | _ => fun _ _ _ _ _ _ _ => False
def opP (op : COp) (C : Cfg) (S : Tr AObj) (nx : Nat) (V : List (Nat × AV)) (T : TF) (κ ρ : VK) : Prop := match kindC op with
  | .light => lightP op C S V T fun v => κ v S nx
  | .make => makeP op C S nx V T κ
  | .heavy => heavyP op C S nx V T κ ρ

/-! ### Regions -/
def wantP (g : Option (Nat × Bool)) (V : List (Nat × AV)) (a b : Prop) : Prop := match g with
  | none => a
  | some (j, want) => optP (assocN V j) fun v => guardP want v a b
def wantS (g : Option (Nat × Bool)) (V : List (Nat × AV)) (oc : VK → Prop) (J : VK) (S : Tr AObj) (nx : Nat) : Prop := match g with
  | none => oc J
  | some (j, want) => joinV J fun κ => optP (assocN V j) fun v => guardP want v (oc κ) (κ undef S nx)
def wantL (g : Option (Nat × Bool)) (V : List (Nat × AV)) (oc : (AV → Tr AObj → Prop) → Prop) (J : AV → Tr AObj → Prop) (S : Tr AObj) : Prop := match g with
  | none => oc J
  | some (j, want) => joinL J fun κ => optP (assocN V j) fun v => guardP want v (oc κ) (κ undef S)
def wantQ (g : Option (Nat × Bool)) (V : List (Nat × AV)) (oc : Prop → Prop) (J : Prop) : Prop := match g with
  | none => oc J
  | some (j, want) => joinQ J fun κ => optP (assocN V j) fun v => guardP want v (oc κ) κ
theorem wantS_iff (g : Option (Nat × Bool)) (V : List (Nat × AV)) (oc : VK → Prop) (J : VK) (S : Tr AObj) (nx : Nat) : wantS g V oc J S nx = wantP g V (oc J) (J undef S nx) := by
  cases g with
  | none => rfl
  | some p => exact joinV_eq _ _
theorem wantL_iff (g : Option (Nat × Bool)) (V : List (Nat × AV)) (oc : (AV → Tr AObj → Prop) → Prop) (J : AV → Tr AObj → Prop) (S : Tr AObj) : wantL g V oc J S = wantP g V (oc J) (J undef S) := by
  cases g with
  | none => rfl
  | some p => exact joinL_eq _ _
theorem wantQ_iff (g : Option (Nat × Bool)) (V : List (Nat × AV)) (oc : Prop → Prop) (J : Prop) : wantQ g V oc J = wantP g V (oc J) J := by
  cases g with
  | none => rfl
  | some p => exact joinQ_eq _ _
def setTF (T : TF) (d : Nat) (v : AV) : TF := fun n => cnd (Nat.beq d n) (some v) (T n)
def finP (l : List (Nat × Nat)) : List (Nat × AV) → TF → (TF → Prop) → Prop :=
  List.rec (motive := fun _ => List (Nat × AV) → TF → (TF → Prop) → Prop) (fun _ T κ => κ T)
    (fun p _ ih V T κ => optP (assocN V p.1) fun v => ih V (setTF T p.2 v) κ) l
def seqP (C : Cfg) (fin : List (Nat × Nat)) (T : TF) (κ : HK) (ρ : VK) (rest : List CI) : List (Nat × AV) → Tr AObj → Nat → Prop :=
  List.rec (motive := fun _ => List (Nat × AV) → Tr AObj → Nat → Prop) (fun V S nx => finP fin V T fun T => κ T S nx)
    (fun x _ ih V S nx => wantS x.g V (fun κ => opP x.op C S nx V T κ ρ) (fun v S nx => ih ((x.i, v) :: V) S nx) S nx) rest
def lightsP (C : Cfg) (base : Nat) (T : TF) (l : List CI) : List (Nat × AV) → Tr AObj → (List (Nat × AV) → Tr AObj → Prop) → Prop :=
  List.rec (motive := fun _ => List (Nat × AV) → Tr AObj → (List (Nat × AV) → Tr AObj → Prop) → Prop) (fun V S κ => κ V S)
    (fun x _ ih V S κ => wantL x.g V (fun j => match kindC x.op with
      | .make => makeAtP x.op C S (base + x.i) V T j
      | _ => lightP x.op C S V T fun v => j v S) (fun v S => ih ((x.i, v) :: V) S κ) S) l
structure sameP (x : AV) (o : Option AV) (κ : Prop) : Prop where
  out : optP o fun u => AV.same 30 x u = true ∧ κ
theorem sameP_eq (x : AV) (o : Option AV) (κ : Prop) : sameP x o κ = (optP o fun u => AV.same 30 x u = true ∧ κ) := propext ⟨fun h => h.out, fun h => ⟨h⟩⟩
def reP (C : Cfg) (T : TF) (V : List (Nat × AV)) (S : Tr AObj) (l : List CI) : Prop → Prop :=
  List.rec (motive := fun _ => Prop → Prop) (fun κ => κ) (fun x _ ih κ => wantQ x.g V (fun q => lightP x.op C S V T fun v => sameP v (assocN V x.i) q) (ih κ)) l
def drawnP (C : Cfg) (base : Nat) (fin : List (Nat × Nat)) (T : TF) (κ : HK) (ρ : VK) (stages : List Stage) : List (Nat × AV) → Tr AObj → Nat → Prop :=
  List.rec (motive := fun _ => List (Nat × AV) → Tr AObj → Nat → Prop) (fun _ _ _ => False)
    (fun s _ ih V S nx => lightsP C base T s.lights V S fun V S => reP C T V S s.re (match s.heavy with
      | none => finP fin V T fun T => κ T S nx
      | some h => wantS h.g V (fun κ => heavyP h.op C S nx V T κ ρ) (fun v S nx => ih ((h.i, v) :: V) S nx) S nx)) stages

/-! ### Code -/
structure loopP (body : HK → HK) (T : TF) (S : Tr AObj) (nx : Nat) : Prop where
  out : ∃ I : Nat → HK, (∃ m, I m T S nx) ∧ ∀ m T S nx, I m T S nx → body (fun T S nx => ∃ m', m' < m ∧ I m' T S nx) T S nx
def exitP (id : Nat) (κ : HK) (e : Nat → HK) : Nat → HK := fun id' => cnd (Nat.beq id id') κ (e id')
def evTP (o : Operand) (T : TF) (κ : AV → Prop) : Prop := opdP [] [] T o κ
def regP (C : Cfg) (n lv : Nat) (ρ : VK) (ops : Array Oper) (draw : Bool) (κ : HK) : HK := fun T S nx => Bool.rec (motive := fun _ => Prop)
  (optP (mkSeq C n ops lv) fun r => seqP C r.fin T κ ρ r.rest [] S nx)
  (optP (mkDrawn C n ops lv) fun r => letN (nx + ops.size) fun nx' => drawnP C nx r.fin T κ ρ r.stages [] S nx') draw
def codeP (C : Cfg) (n lv : Nat) (ρ : VK) (c : Code) : HK → (Nat → HK) → HK → HK :=
  Code.rec (motive := fun _ => HK → (Nat → HK) → HK → HK)
    (fun κ _ _ => κ)
    (fun _ ops d κ _ _ => regP C n lv ρ ops d κ)
    (fun _ _ iha ihb κ e r => iha (ihb κ e r) e r)
    (fun c _ _ iha ihb κ e r T S nx => evTP c T fun v => joinH κ fun κ => boolP v (iha κ e r T S nx) (ihb κ e r T S nx))
    (fun id _ ihb κ e r T S nx => joinH κ fun κ => ihb κ (exitP id κ e) r T S nx)
    (fun _ ihb _ e r => loopP fun again => ihb again e r)
    (fun _ _ _ _ _ _ _ _ _ _ _ _ => False)
    (fun id _ e _ => e id)
    (fun _ ihb κ e r => ihb κ e r)
    (fun _ κ _ _ => κ)
    (fun _ _ _ _ _ _ _ => False)
    (fun _ _ r => r)
    (fun _ _ _ _ _ _ _ => False) c
def resultsP (C : Cfg) (S : Tr AObj) (T : TF) (l : List ResultVar) : (List AV → Prop) → Prop :=
  List.rec (motive := fun _ => (List AV → Prop) → Prop) (fun κ => κ [])
    (fun x _ ih κ => ResultVar.rec (motive := fun _ => Prop) (fun t => optP (T t) fun v => ih fun r => κ (v :: r)) (fun a t => optP (T a) fun p => optR (aLoad C S t p) fun v => ih fun r => κ (v :: r)) x) l
def argsTF (l : List AV) : TF := fun n => nth l n
def fnCode (C : Cfg) (f : Nat) (args : List AV) (S : Tr AObj) (nx : Nat) (Q R : VK) : Prop := match C.P.funcs[f]? with
  | some fn => (match fn.body with
    | some c => codeP C fn.ntmps (Nat.lor (liveOf c) (resMask fn.results.toList)) R c (fun T S nx => resultsP C S T fn.results.toList fun vs => Q (one vs) S nx) (fun _ _ _ _ => False)
        (fun T S nx => resultsP C S T fn.results.toList fun vs => Q (one vs) S nx) (argsTF args) S nx
    | none => False)
  | none => False
def fnChk (C : Cfg) (f na : Nat) : Bool := match C.P.funcs[f]? with
  | some fn => (match fn.body with
    | some c => Nat.ble na fn.ntmps && codeOk C (Nat.lor (liveOf c) (resMask fn.results.toList)) c && resOk (Nat.lor (liveOf c) (resMask fn.results.toList)) fn.results.toList
    | none => false)
  | none => false
end
end Go.AE

/-! ## The logic is sound -/
namespace Go.AE
noncomputable section
open Go.RowKit (Below)

/-- what is told of the temporaries holds of them -/
def TFok (T : TF) (t : Tr AV) : Prop := ∀ n v, T n = some v → t.get n = some v
section
variable {C : Cfg} {S : Tr AObj} {nx : Nat} {V : List (Nat × AV)} {T : TF} {t : Tr AV}
theorem evP_inv (h : TFok T t) {x : CX} {κ : AV → Prop} (hp : evP x V T κ) : ∃ a, evx x V t = some a ∧ κ a := by
  cases x with
  | v j => exact optP_iff.1 hp
  | t n =>
    obtain ⟨a, h1, h2⟩ := optP_iff.1 (show optP (T n) κ from hp)
    exact ⟨a, h n a h1, h2⟩
  | c a => exact ⟨a, rfl, hp⟩
theorem evsP_inv (h : TFok T t) : ∀ {l : List CX} {κ : List AV → Prop}, evsP V T l κ → ∃ as, evxs V t l = some as ∧ κ as := by
  intro l
  induction l with
  | nil => intro κ hp; exact ⟨[], rfl, hp⟩
  | cons x l ih =>
    intro κ hp
    obtain ⟨a, h1, h2⟩ := evP_inv h (show evP x V T (fun a => evsP V T l fun r => κ (a :: r)) from hp)
    obtain ⟨r, h3, h4⟩ := ih h2
    exact ⟨a :: r, by simp [evxs, h1, h3], h4⟩
theorem opdP_inv (h : TFok T t) {srcs : List (Nat × Nat)} {o : Operand} {κ : AV → Prop} (hp : opdP srcs V T o κ) : ∃ a, evo srcs V t o = some a ∧ κ a := by
  cases o with
  | tmp n =>
    simp only [opdP] at hp
    simp only [evo]
    cases hj : assocN srcs n with
    | some j => simp only [hj] at hp ⊢; exact optP_iff.1 hp
    | none =>
      simp only [hj] at hp ⊢
      obtain ⟨a, h1, h2⟩ := optP_iff.1 hp
      exact ⟨a, h n a h1, h2⟩
  | const v => exact optP_iff.1 hp
  | global g => exact ⟨_, rfl, hp⟩
  | func f => exact ⟨_, rfl, hp⟩
theorem opdsP_inv (h : TFok T t) {srcs : List (Nat × Nat)} : ∀ {l : List Operand} {κ : List AV → Prop}, opdsP srcs V T l κ → ∃ as, evalAll (evo srcs V t) l = some as ∧ κ as := by
  intro l
  induction l with
  | nil => intro κ hp; exact ⟨[], rfl, hp⟩
  | cons x l ih =>
    intro κ hp
    obtain ⟨a, h1, h2⟩ := opdP_inv h (show opdP srcs V T x (fun a => opdsP srcs V T l fun r => κ (a :: r)) from hp)
    obtain ⟨r, h3, h4⟩ := ih h2
    exact ⟨a :: r, by simp [evalAll, h1, h3], h4⟩
theorem partsP_inv (h : TFok T t) {srcs : List (Nat × Nat)} : ∀ {l : List (Nat × Operand)} {κ : List (Nat × AV) → Prop}, partsP srcs V T l κ → ∃ as, evalParts (evo srcs V t) l = some as ∧ κ as := by
  intro l
  induction l with
  | nil => intro κ hp; exact ⟨[], rfl, hp⟩
  | cons x l ih =>
    intro κ hp
    obtain ⟨i, o⟩ := x
    obtain ⟨a, h1, h2⟩ := opdP_inv h (show opdP srcs V T o (fun a => partsP srcs V T l fun r => κ ((i, a) :: r)) from hp)
    obtain ⟨r, h3, h4⟩ := ih h2
    exact ⟨(i, a) :: r, by simp [evalParts, h1, h3], h4⟩
theorem oopdP_inv (h : TFok T t) {srcs : List (Nat × Nat)} {o : Option Operand} {κ : Option AV → Prop} (hp : oopdP srcs V T o κ) : ∃ a, optEval (evo srcs V t) o = some a ∧ κ a := by
  cases o with
  | none => exact ⟨none, rfl, hp⟩
  | some x =>
    obtain ⟨a, h1, h2⟩ := opdP_inv h (show opdP srcs V T x (fun a => κ (some a)) from hp)
    exact ⟨some a, by simp [optEval, h1], h2⟩

theorem lightOpP_inv (h : TFok T t) {srcs : List (Nat × Nat)} {o : Op} {κ : AV → Prop} (hp : lightOpP srcs o C S V T κ) : ∃ v, aLight o C S (evo srcs V t) = some v ∧ κ v := by
  cases o with
  | build ty parts =>
    obtain ⟨ps, h1, h2⟩ := partsP_inv h (show partsP srcs V T parts.toList _ from hp)
    obtain ⟨v, h3, h4⟩ := (optR_iff.1 h2)
    exact ⟨v, by simp [aLight, lBuild, h1, h3], h4⟩
  | binOp op ty x y yt =>
    obtain ⟨a, h1, h2⟩ := opdP_inv h (show opdP srcs V T x _ from hp)
    obtain ⟨b, h3, h4⟩ := opdP_inv h h2
    obtain ⟨v, h5, h6⟩ := (optR_iff.1 h4)
    exact ⟨v, by simp [aLight, lBin, h1, h3, h5], h6⟩
  | unOp op ty x =>
    obtain ⟨a, h1, h2⟩ := opdP_inv h (show opdP srcs V T x _ from hp)
    obtain ⟨v, h3, h4⟩ := (optR_iff.1 h2)
    exact ⟨v, by simp [aLight, lUn, h1, h3], h4⟩
  | convert s d x =>
    obtain ⟨a, h1, h2⟩ := opdP_inv h (show opdP srcs V T x _ from hp)
    obtain ⟨v, h3, h4⟩ := (optR_iff.1 h2)
    exact ⟨v, by simpa [aLight, lConv, convV, one1, h1] using h3, h4⟩
  | makeInterface ty x =>
    obtain ⟨a, h1, h2⟩ := opdP_inv h (show opdP srcs V T x _ from hp)
    obtain ⟨v, h3, h4⟩ := (optR_iff.1 h2)
    exact ⟨v, by simpa [aLight, lIface, ifaceV, one1, h1] using h3, h4⟩
  | makeFunc fn first captured =>
    cases fn with
    | func f =>
      obtain ⟨a, h1, h2⟩ := opdsP_inv h (show opdsP srcs V T first.toList _ from hp)
      obtain ⟨b, h3, h4⟩ := opdsP_inv h h2
      exact ⟨_, by simp [aLight, lFunc, h1, h3], h4⟩
    | _ => exact hp.elim
  | slice ty x lo hi mx =>
    obtain ⟨a, h1, h2⟩ := opdP_inv h (show opdP srcs V T x _ from hp)
    obtain ⟨l, h3, h4⟩ := oopdP_inv h h2
    obtain ⟨b, h5, h6⟩ := oopdP_inv h h4
    obtain ⟨m, h7, h8⟩ := oopdP_inv h h6
    obtain ⟨v, h9, h10⟩ := (optR_iff.1 h8)
    exact ⟨v, by simp [aLight, lSlice, h1, h3, h5, h7, h9], h10⟩
  | field ty x f =>
    obtain ⟨a, h1, h2⟩ := opdP_inv h (show opdP srcs V T x _ from hp)
    obtain ⟨v, h3, h4⟩ := (optR_iff.1 h2)
    exact ⟨v, by simpa [aLight, lField, fieldV, one1, h1] using h3, h4⟩
  | index ty x i =>
    obtain ⟨a, h1, h2⟩ := opdP_inv h (show opdP srcs V T x _ from hp)
    obtain ⟨b, h3, h4⟩ := opdP_inv h h2
    obtain ⟨v, h5, h6⟩ := (optR_iff.1 h4)
    exact ⟨v, by simp [aLight, lIndex, h1, h3, h5], h6⟩
  | lookup ty m k ok =>
    obtain ⟨a, h1, h2⟩ := opdP_inv h (show opdP srcs V T m _ from hp)
    obtain ⟨b, h3, h4⟩ := opdP_inv h h2
    obtain ⟨v, h5, h6⟩ := (optR_iff.1 h4)
    exact ⟨v, by simp [aLight, lLookup, h1, h3, h5], h6⟩
  | typeAssert x ty asserted ok =>
    obtain ⟨a, h1, h2⟩ := opdP_inv h (show opdP srcs V T x _ from hp)
    obtain ⟨v, h3, h4⟩ := (optR_iff.1 h2)
    exact ⟨v, by simpa [aLight, lAssert, assertV, one1, h1] using h3, h4⟩
  | entry it =>
    obtain ⟨a, h1, h2⟩ := opdP_inv h (show opdP srcs V T it _ from hp)
    obtain ⟨v, h3, h4⟩ := (optR_iff.1 h2)
    exact ⟨v, by simpa [aLight, lEntry, entryV, one1, h1] using h3, h4⟩
  | call c =>
    obtain ⟨callee, args, ats⟩ := c
    cases callee with
    | builtin b =>
      obtain ⟨vs, h1, h2⟩ := opdsP_inv h (show opdsP srcs V T args.toList _ from hp)
      obtain ⟨v, h3, h4⟩ := (optR_iff.1 h2)
      refine ⟨v, ?_, h4⟩
      have e : aLight (.call ⟨.builtin b, args, ats⟩) C S (evo srcs V t) = builtV C S b ats.toList vs := by
        simp only [aLight, lCall, lBuiltin, h1, builtV]
        repeat' split
        all_goals first | rfl | simp_all
      rw [e]; exact h3
    | _ => exact hp.elim
  | _ => exact hp.elim
theorem lightP_inv (h : TFok T t) {op : COp} {κ : AV → Prop} (hp : lightP op C S V T κ) : ∃ v, exLight op C S V t = some v ∧ κ v := by
  cases op with
  | mov x => exact evP_inv h hp
  | pick c a b =>
    obtain ⟨cv, h1, h2⟩ := evP_inv h (show evP c V T _ from hp)
    obtain ⟨tt, rfl, h3, h4⟩ := boolP_inv h2.out
    cases tt with
    | true =>
      obtain ⟨v, h5, h6⟩ := evP_inv h (h3 rfl)
      exact ⟨v, by simp [exLight, h1, xPick, h5], h6⟩
    | false =>
      obtain ⟨v, h5, h6⟩ := evP_inv h (h4 rfl)
      exact ⟨v, by simp [exLight, h1, xPick, h5], h6⟩
  | ld1 a =>
    obtain ⟨a', h1, h2⟩ := evP_inv h (show evP a V T _ from hp)
    obtain ⟨v, h3, h4⟩ := (optR_iff.1 h2)
    exact ⟨v, by simp [exLight, h1, h3], h4⟩
  | ldN n a =>
    obtain ⟨a', h1, h2⟩ := evP_inv h (show evP a V T _ from hp)
    obtain ⟨v, h3, h4⟩ := (optR_iff.1 h2)
    exact ⟨v, by simp [exLight, h1, h3], h4⟩
  | off d x =>
    obtain ⟨a', h1, h2⟩ := evP_inv h (show evP x V T _ from hp)
    obtain ⟨v, h3, h4⟩ := (optR_iff.1 h2)
    exact ⟨v, by simp [exLight, h1, h3], h4⟩
  | ixA n sz x i =>
    obtain ⟨a', h1, h2⟩ := evP_inv h (show evP x V T _ from hp)
    obtain ⟨i', h3, h4⟩ := evP_inv h h2
    obtain ⟨v, h5, h6⟩ := (optR_iff.1 h4)
    exact ⟨v, by simp only [exLight, h1, h3]; unfold ixAV at h5; cases hi : natOf i' <;> simp_all, h6⟩
  | ixS sz x i =>
    obtain ⟨a', h1, h2⟩ := evP_inv h (show evP x V T _ from hp)
    obtain ⟨i', h3, h4⟩ := evP_inv h h2
    obtain ⟨v, h5, h6⟩ := (optR_iff.1 h4)
    exact ⟨v, by simp only [exLight, h1, h3]; unfold ixSV at h5; cases hi : natOf i' <;> simp_all, h6⟩
  | nilck x =>
    obtain ⟨a', h1, h2⟩ := evP_inv h (show evP x V T _ from hp)
    obtain ⟨v, h3, h4⟩ := (optR_iff.1 h2)
    exact ⟨v, by simp [exLight, h1, h3], h4⟩
  | ib op x y =>
    obtain ⟨a', h1, h2⟩ := evP_inv h (show evP x V T _ from hp)
    obtain ⟨i', h3, h4⟩ := evP_inv h h2
    obtain ⟨v, h5, h6⟩ := (optR_iff.1 h4)
    exact ⟨v, by simp [exLight, h1, h3, h5], h6⟩
  | ext i x =>
    obtain ⟨a', h1, h2⟩ := evP_inv h (show evP x V T _ from hp)
    obtain ⟨v, h3, h4⟩ := (optR_iff.1 h2)
    exact ⟨v, by simp [exLight, h1, h3], h4⟩
  | light srcs o => exact lightOpP_inv h hp
  | _ => exact hp.elim
theorem makeP_inv (h : TFok T t) {op : COp} {b : Nat} {κ : VK} (hp : makeP op C S b V T κ) : ∃ v ob, exMake op C b V t = some (v, ob) ∧ κ v (hset C S b (some ob)) (b + 1) := by
  cases op with
  | make srcs o =>
    cases o with
    | alloc ty =>
      obtain ⟨⟨v, ob⟩, h1, h2⟩ := optR_iff.1 (show optR (mAlloc C ty (one1 undef) b) _ from hp)
      exact ⟨v, ob, h1, h2.out⟩
    | box ty x =>
      obtain ⟨a, h1, h2⟩ := opdP_inv h (show opdP srcs V T x _ from hp)
      exact ⟨_, _, by simp only [exMake, aMake, mBox, h1], h2.out⟩
    | buildSlice ty len parts =>
      obtain ⟨ps, h1, h2⟩ := partsP_inv h (show partsP srcs V T parts.toList _ from hp)
      obtain ⟨⟨v, ob⟩, h3, h4⟩ := (optR_iff.1 h2)
      refine ⟨v, ob, ?_, h4.out⟩
      simp only [exMake, aMake, mSlice, h1]
      unfold sliceV at h3
      split at h3
      · rename_i hu
        simp only [hu]
        exact h3
      · cases h3
    | makeMap ty r =>
      cases r with
      | none => exact ⟨_, _, rfl, (show mkP C S b _ _ κ from hp).out⟩
      | some r => exact hp.elim
    | _ => exact hp.elim
  | _ => exact hp.elim
theorem makeAtP_inv (h : TFok T t) {op : COp} {b : Nat} {κ : AV → Tr AObj → Prop} (hp : makeAtP op C S b V T κ) : ∃ v ob, exMake op C b V t = some (v, ob) ∧ κ v (hset C S b (some ob)) := by
  cases op with
  | make srcs o =>
    cases o with
    | alloc ty =>
      obtain ⟨⟨v, ob⟩, h1, h2⟩ := optR_iff.1 (show optR (mAlloc C ty (one1 undef) b) _ from hp)
      exact ⟨v, ob, h1, h2.out⟩
    | box ty x =>
      obtain ⟨a, h1, h2⟩ := opdP_inv h (show opdP srcs V T x _ from hp)
      exact ⟨_, _, by simp only [exMake, aMake, mBox, h1], h2.out⟩
    | buildSlice ty len parts =>
      obtain ⟨ps, h1, h2⟩ := partsP_inv h (show partsP srcs V T parts.toList _ from hp)
      obtain ⟨⟨v, ob⟩, h3, h4⟩ := (optR_iff.1 h2)
      refine ⟨v, ob, ?_, h4.out⟩
      simp only [exMake, aMake, mSlice, h1]
      unfold sliceV at h3
      split at h3
      · rename_i hu
        simp only [hu]
        exact h3
      · cases h3
    | makeMap ty r =>
      cases r with
      | none => exact ⟨_, _, rfl, (show mkAtP C S b _ _ κ from hp).out⟩
      | some r => exact hp.elim
    | _ => exact hp.elim
  | _ => exact hp.elim
/-- an answer's meaning -/
theorem callP_ares {f : Nat} {as : List AV} {κ ρ : VK} (h : callP C f as S nx κ ρ) : ∃ r, aCallFunc C f as = some r ∧ aresP C (some r) S nx κ ρ := by
  rcases h.out with ⟨u, h1, h2⟩ | ⟨h1, ⟨fn, c, h2, h3⟩, h4⟩
  · exact ⟨.known f as u, by simp [aCallFunc, h1], h2⟩
  · exact ⟨.enter f as, by simp [aCallFunc, h1, h2, h3], h4⟩
theorem resP_ares {o : Option ARes} {κ ρ : VK} (h : resP o S nx κ) : ∃ r, o = some r ∧ aresP C (some r) S nx κ ρ := by
  rw [resP_eq] at h
  split at h
  · exact ⟨_, rfl, h⟩
  · exact ⟨_, rfl, h⟩
  · exact h.elim
theorem forkP_ares {o : Option ARes} {κ ρ : VK} (h : forkP o S nx κ) : ∃ r, o = some r ∧ aresP C (some r) S nx κ ρ := by
  rw [forkP_eq] at h
  split at h
  · exact ⟨_, rfl, h⟩
  · exact ⟨_, rfl, h⟩
  · exact ⟨_, rfl, h⟩
  · exact h.elim
theorem heavyP_inv (h : TFok T t) {op : COp} {κ ρ : VK} (hp : heavyP op C S nx V T κ ρ) : ∃ r, exHeavy op C S nx V t = some r ∧ aresP C (some r) S nx κ ρ := by
  cases op with
  | st n a v =>
    obtain ⟨a', h1, h2⟩ := evP_inv h (show evP a V T _ from hp)
    obtain ⟨v', h3, h4⟩ := evP_inv h h2
    obtain ⟨S', h5, h6⟩ := (optR_iff.1 h4)
    refine ⟨.vals undef S' nx, ?_, h6⟩
    simp only [exHeavy, h1, h3]
    unfold stV at h5
    split at h5
    · simp only [cnd_none] at h5
      simp [storeTo, h5.2, cnd_ite, h5.1]
    · cases h5
  | call f args =>
    obtain ⟨as, h1, h2⟩ := evsP_inv h (show evsP V T args _ from hp)
    obtain ⟨r, h3, h4⟩ := callP_ares h2
    exact ⟨r, by simp [exHeavy, h1, h3], h4⟩
  | heavy srcs o =>
    cases o with
    | mapUpdate ty m k x =>
      obtain ⟨a, h1, h2⟩ := opdP_inv h (show opdP srcs V T m _ from hp)
      obtain ⟨b, h3, h4⟩ := opdP_inv h h2
      obtain ⟨c, h5, h6⟩ := opdP_inv h h4
      obtain ⟨r, h7, h8⟩ := resP_ares (C := C) (ρ := ρ) h6
      exact ⟨r, by simp [exHeavy, aHeavy, hMapSet, h1, h3, h5, h7], h8⟩
    | insert ty m k x =>
      obtain ⟨a, h1, h2⟩ := opdP_inv h (show opdP srcs V T m _ from hp)
      obtain ⟨b, h3, h4⟩ := opdP_inv h h2
      obtain ⟨c, h5, h6⟩ := opdP_inv h h4
      obtain ⟨r, h7, h8⟩ := resP_ares (C := C) (ρ := ρ) h6
      exact ⟨r, by simp [exHeavy, aHeavy, hMapSet, h1, h3, h5, h7], h8⟩
    | mapEntry ty m k =>
      obtain ⟨a, h1, h2⟩ := opdP_inv h (show opdP srcs V T m _ from hp)
      obtain ⟨b, h3, h4⟩ := opdP_inv h h2
      obtain ⟨r, h7, h8⟩ := resP_ares (C := C) (ρ := ρ) h4
      exact ⟨r, by simpa [exHeavy, aHeavy, hMapEntry, two, Go.AE.o0, Go.AE.o1, h1, h3] using h7, h8⟩
    | entryStore ty m s x =>
      obtain ⟨a, h1, h2⟩ := opdP_inv h (show opdP srcs V T m _ from hp)
      obtain ⟨b, h3, h4⟩ := opdP_inv h h2
      obtain ⟨c, h5, h6⟩ := opdP_inv h h4
      obtain ⟨r, h7, h8⟩ := resP_ares (C := C) (ρ := ρ) h6
      exact ⟨r, by simpa [exHeavy, aHeavy, hEntryStore, three, Go.AE.o0, Go.AE.o1, Go.AE.o2, h1, h3, h5] using h7, h8⟩
    | makeSlice ty l c =>
      obtain ⟨a, h1, h2⟩ := opdP_inv h (show opdP srcs V T l _ from hp)
      obtain ⟨b, h3, h4⟩ := opdP_inv h h2
      obtain ⟨r, h7, h8⟩ := resP_ares (C := C) (ρ := ρ) h4
      exact ⟨r, by simpa [exHeavy, aHeavy, hMakeSlice, two, Go.AE.o0, Go.AE.o1, h1, h3] using h7, h8⟩
    | makeMap ty r0 =>
      cases r0 with
      | none => exact hp.elim
      | some x =>
        obtain ⟨a, h1, h2⟩ := opdP_inv h (show opdP srcs V T x _ from hp)
        obtain ⟨r, h7, h8⟩ := resP_ares (C := C) (ρ := ρ) h2
        exact ⟨r, by simpa [exHeavy, aHeavy, hMakeMap, one1, h1] using h7, h8⟩
    | convert s d x =>
      obtain ⟨a, h1, h2⟩ := opdP_inv h (show opdP srcs V T x _ from hp)
      obtain ⟨r, h7, h8⟩ := resP_ares (C := C) (ρ := ρ) h2
      exact ⟨r, by simpa [exHeavy, aHeavy, hStrBytes, one1, h1] using h7, h8⟩
    | range ty x =>
      obtain ⟨a, h1, h2⟩ := opdP_inv h (show opdP srcs V T x _ from hp)
      obtain ⟨r, h7, h8⟩ := resP_ares (C := C) (ρ := ρ) h2
      exact ⟨r, by simpa [exHeavy, aHeavy, hRange, one1, h1] using h7, h8⟩
    | next it isString =>
      obtain ⟨a, h1, h2⟩ := opdP_inv h (show opdP srcs V T it _ from hp)
      obtain ⟨r, h7, h8⟩ := forkP_ares (C := C) (ρ := ρ) h2
      exact ⟨r, by simpa [exHeavy, aHeavy, hNext, one1, h1] using h7, h8⟩
    | panic x =>
      obtain ⟨a, h1, h2⟩ := opdP_inv h (show opdP srcs V T x _ from hp)
      rw [panicP_eq] at h2
      split at h2
      · rename_i ti vi
        exact ⟨.panic (.iface ti vi), by simp [exHeavy, aHeavy, hPanic, h1], h2⟩
      · exact h2.elim
    | call c =>
      obtain ⟨callee, args, ats⟩ := c
      cases callee with
      | value f =>
        obtain ⟨fv, h1, h2⟩ := opdP_inv h (show opdP srcs V T f _ from hp)
        obtain ⟨as, h3, h4⟩ := opdsP_inv h h2
        have h4 := h4.out
        split at h4
        · split at h4
          · obtain ⟨r, h5, h6⟩ := callP_ares h4
            exact ⟨r, by simp [exHeavy, aHeavy, hCall, h1, h3, aInvoke]; simpa using h5, h6⟩
          · exact h4.elim
        · exact h4.elim
      | builtin b =>
        obtain ⟨vs, h1, h2⟩ := opdsP_inv h (show opdsP srcs V T args.toList _ from hp)
        obtain ⟨r, h7, h8⟩ := resP_ares (C := C) (ρ := ρ) h2
        refine ⟨r, ?_, h8⟩
        have e : ∀ r, hbuiltV C S nx b ats.toList vs = some r → exHeavy (.heavy srcs (.call ⟨.builtin b, args, ats⟩)) C S nx V t = some r := by
          intro r hr
          simp only [exHeavy, aHeavy, hCall, hBuiltin, h1]
          unfold hbuiltV at hr
          split at hr
          all_goals first | exact hr | cases hr
        exact e r h7
      | invoke x name =>
        obtain ⟨rv, h1, h2⟩ := opdP_inv h (show opdP srcs V T x _ from hp)
        obtain ⟨as, h3, h4⟩ := opdsP_inv h h2
        rw [methodP_eq] at h4
        split at h4
        · cases hm : aMethod C S _ _ name as with
          | none => rw [hm] at h4; exact h4.elim
          | some r => rw [hm] at h4; exact ⟨r, by simp [exHeavy, aHeavy, hCall, h1, h3, hm], h4⟩
        · exact h4.elim
    | _ => exact hp.elim
  | _ => exact hp.elim
theorem guardP_inv {want : Bool} {v : AV} {a b : Prop} (h : guardP want v a b) : ∃ w, (match v with | .bool b => some (b == want) | _ => some false) = some w ∧ (w = true → a) ∧ (w = false → b) := by
  have h := h.out
  cases v with
  | bool t =>
    obtain ⟨h1, h2⟩ := h
    refine ⟨t == want, rfl, fun e => h1 (by simpa using e), fun e => h2 ?_⟩
    cases t <;> cases want <;> simp_all
  | _ => exact ⟨false, rfl, by simp, fun _ => h⟩
theorem wantP_inv {g : Option (Nat × Bool)} {a b : Prop} (h : wantP g V a b) : ∃ w, wantedV g V = some w ∧ (w = true → a) ∧ (w = false → b) := by
  cases g with
  | none => exact ⟨true, rfl, fun _ => h, by simp⟩
  | some p =>
    obtain ⟨j, want⟩ := p
    obtain ⟨v, h1, h2⟩ := optP_iff.1 (show optP (assocN V j) _ from h)
    obtain ⟨w, h3, h4⟩ := guardP_inv h2
    exact ⟨w, by simp only [wantedV, h1]; exact h3, h4⟩
theorem setTF_ok (h : TFok T t) (d : Nat) (v : AV) : TFok (setTF T d v) (t.set d (some v)) := by
  intro n u hu
  unfold setTF at hu
  rw [cnd_beq] at hu
  rw [Tr.get_set]
  split at hu
  · rename_i e; rw [if_pos e]; exact hu
  · rename_i e; rw [if_neg e]; exact h n u hu
theorem finP_inv : ∀ {l : List (Nat × Nat)} {T : TF} {t : Tr AV} {κ : TF → Prop}, TFok T t → finP l V T κ → ∃ T' t', finT V l t = some t' ∧ TFok T' t' ∧ κ T' := by
  intro l
  induction l with
  | nil => intro T t κ h hp; exact ⟨T, t, rfl, h, hp⟩
  | cons p l ih =>
    intro T t κ h hp
    obtain ⟨i, d⟩ := p
    obtain ⟨v, h1, h2⟩ := optP_iff.1 (show optP (assocN V i) (fun v => finP l V (setTF T d v) κ) from hp)
    obtain ⟨T', t', h3, h4, h5⟩ := ih (setTF_ok h d v) h2
    exact ⟨T', t', by simp [finT, h1, h3], h4, h5⟩
theorem resultsP_inv (h : TFok T t) : ∀ {l : List ResultVar} {κ : List AV → Prop}, resultsP C S T l κ → ∃ vs, resultsOf C S t l = some vs ∧ κ vs := by
  intro l
  induction l with
  | nil => intro κ hp; exact ⟨[], rfl, hp⟩
  | cons x l ih =>
    intro κ hp
    cases x with
    | tmp n =>
      obtain ⟨v, h1, h2⟩ := optP_iff.1 (show optP (T n) (fun v => resultsP C S T l fun r => κ (v :: r)) from hp)
      obtain ⟨r, h3, h4⟩ := ih h2
      exact ⟨v :: r, by simp [resultsOf, h n v h1, h3], h4⟩
    | cell a ty =>
      obtain ⟨p, h1, h2⟩ := optP_iff.1 (show optP (T a) (fun p => optR (aLoad C S ty p) fun v => resultsP C S T l fun r => κ (v :: r)) from hp)
      obtain ⟨v, h3, h4⟩ := (optR_iff.1 h2)
      obtain ⟨r, h5, h6⟩ := ih h4
      exact ⟨v :: r, by simp [resultsOf, h a p h1, h3, h5], h6⟩
theorem lightsP_inv (h : TFok T t) {base : Nat} : ∀ {l : List CI} {V : List (Nat × AV)} {S : Tr AObj} {κ : List (Nat × AV) → Tr AObj → Prop}, lightsP C base T l V S κ → ∃ V' S', doLights C base t l V S = some (V', S') ∧ κ V' S' := by
  intro l
  induction l with
  | nil => intro V S κ hp; exact ⟨V, S, rfl, hp⟩
  | cons x l ih =>
    intro V S κ hp
    obtain ⟨w, h1, h2, h3⟩ := wantP_inv ((wantL_iff ..).mp (show wantL x.g V (fun j => match kindC x.op with
      | .make => makeAtP x.op C S (base + x.i) V T j
      | _ => lightP x.op C S V T fun v => j v S) (fun v S => lightsP C base T l ((x.i, v) :: V) S κ) S from hp))
    simp only [doLights, h1]
    cases w with
    | false => exact ih (h3 rfl)
    | true =>
      have h4 := h2 rfl
      cases hk : kindC x.op with
      | make =>
        simp only [hk] at h4
        obtain ⟨v, ob, h5, h6⟩ := makeAtP_inv h h4
        simp only [h5, forceTr_eq]
        exact ih h6
      | light =>
        simp only [hk] at h4
        obtain ⟨v, h5, h6⟩ := lightP_inv h h4
        simp only [h5]
        exact ih h6
      | heavy =>
        simp only [hk] at h4
        obtain ⟨v, h5, h6⟩ := lightP_inv h h4
        simp only [h5]
        exact ih h6
theorem reP_inv (h : TFok T t) : ∀ {l : List CI} {κ : Prop}, reP C T V S l κ → doRe C t V S l = true ∧ κ := by
  intro l
  induction l with
  | nil => intro κ hp; exact ⟨rfl, hp⟩
  | cons x l ih =>
    intro κ hp
    obtain ⟨w, h1, h2, h3⟩ := wantP_inv ((wantQ_iff ..).mp (show wantQ x.g V (fun q => lightP x.op C S V T fun v => sameP v (assocN V x.i) q) (reP C T V S l κ) from hp))
    simp only [doRe, h1]
    cases w with
    | false => exact ih (h3 rfl)
    | true =>
      obtain ⟨v, h5, h6⟩ := lightP_inv h (h2 rfl)
      obtain ⟨u, h7, h8, h9⟩ := optP_iff.1 h6.out
      obtain ⟨h10, h11⟩ := ih h9
      exact ⟨by simp [h5, h7, h8, h10], h11⟩
end
section
variable {C : Cfg} {φ0 : Phi} {D0 : Nat → Prop} {w0 : World} {f0 : Nat} {cs0 : List Frame} {v : AV}
variable {fn n lv : Nat} {df : List ADef} {dd : Bool} {cs : List AFrame}
theorem good_step (env : Env C w0 φ0 D0) {md : AMode} {todo : List AItem} {F : FX} {T : Tr AV} {S : Tr AObj} {nx : Nat} (h : stepM (allGood C w0 f0 cs0 v) C md todo F T S nx = some v) : GoodAt C w0 f0 cs0 md todo F T S nx v :=
  fun φ D w lim tmps K gs hst => stepM_sound env allGood_sound _ _ _ _ _ _ _ _ _ _ _ _ v h φ D w lim tmps K gs hst
/-- an answer comes to the operation that waits -/
theorem after_of (hs : AV.same 30 v v = true) {it : AItem} {k : List AItem} {ro : Option Nat} (hro : ro = none) {T : Tr AV} {S : Tr AObj} {nx : Nat} {κ ρ : VK} (env : Env C w0 φ0 D0)
    (hκ : ∀ u S nx, κ u S nx → ∃ it', fillItem it u = some it' ∧ GoodAt C w0 f0 cs0 .run (it' :: k) ⟨fn, n, lv, df, dd, ro, cs⟩ T S nx v)
    (hρ : ∀ u S nx todo T, ρ u S nx → GoodAt C w0 f0 cs0 (.panicking [⟨u, false⟩]) todo ⟨fn, n, lv, df, dd, ro, cs⟩ T S nx v) {r : ARes} (h : aresP C (some r) S nx κ ρ) :
    afterK r (allGood C w0 f0 cs0 v) C it k ⟨fn, n, lv, df, dd, ro, cs⟩ T S nx = some v := by
  subst hro
  have fill : ∀ u S nx, κ u S nx → (match fillItem it u with | some it' => allGood C w0 f0 cs0 v .run (it' :: k) ⟨fn, n, lv, df, dd, none, cs⟩ T S nx | none => none) = some v := by
    intro u S nx hk
    obtain ⟨it', h1, h2⟩ := hκ u S nx hk
    rw [h1]
    exact allGood_some h2
  cases r with
  | val u => exact fill u S nx h
  | vals u S' nx' => exact fill u S' nx' h
  | enter f args =>
    refine h w0 φ0 D0 env f0 cs0 v hs (suspend it k ⟨fn, n, lv, df, dd, none, cs⟩ T) (fun u S' nx' q => ?_) (fun u S' nx' q => ?_)
    · exact fill u S' nx' q
    · exact allGood_some (hρ u S' nx' _ _ q)
  | known f args u => exact fill u S nx h
  | panic u => exact allGood_some (hρ u S nx _ _ h)
  | fork l => exact forkK_all hs l h.1 fun u S' hm => hκ u S' nx (h.2 u S' hm)
  | _ => exact h.elim
theorem seqP_sound (env : Env C w0 φ0 D0) (hs : AV.same 30 v v = true) {ops : Array Oper} {fin : List (Nat × Nat)} {k : List AItem} {T : TF} {t : Tr AV} (ht : TFok T t) {κ : HK} {ρ : VK}
    (hκ : ∀ T t S nx, TFok T t → κ T S nx → GoodAt C w0 f0 cs0 .run k ⟨fn, n, lv, df, dd, none, cs⟩ t S nx v)
    (hρ : ∀ u S nx todo T, ρ u S nx → GoodAt C w0 f0 cs0 (.panicking [⟨u, false⟩]) todo ⟨fn, n, lv, df, dd, none, cs⟩ T S nx v) :
    ∀ (rest : List CI) (V : List (Nat × AV)) (S : Tr AObj) (nx : Nat), seqP C fin T κ ρ rest V S nx → seqL rest ⟨allGood C w0 f0 cs0 v, ops, fin, k, ⟨fn, n, lv, df, dd, none, cs⟩⟩ C t V S nx = some v := by
  intro rest
  induction rest with
  | nil =>
    intro V S nx h
    obtain ⟨T', t', h1, h2, h3⟩ := finP_inv ht (show finP fin V T (fun T => κ T S nx) from h)
    show endK ⟨allGood C w0 f0 cs0 v, ops, fin, k, ⟨fn, n, lv, df, dd, none, cs⟩⟩ C t V S nx = some v
    simp only [endK, finK_eq, h1, optK_eq]
    exact allGood_some (hκ _ _ _ _ h2 h3)
  | cons x rest ih =>
    intro V S nx h
    obtain ⟨i, g, op⟩ := x
    show opV i g op rest (seqL rest) ⟨allGood C w0 f0 cs0 v, ops, fin, k, ⟨fn, n, lv, df, dd, none, cs⟩⟩ C t V S nx = some v
    obtain ⟨w, h1, h2, h3⟩ := wantP_inv ((wantS_iff ..).mp (show wantS g V (fun κ => opP op C S nx V T κ ρ) (fun v S nx => seqP C fin T κ ρ rest ((i, v) :: V) S nx) S nx from h))
    simp only [opV, wantK_eq, h1, optK_eq]
    cases w with
    | false => simp only [Bool.false_eq_true, if_false]; exact ih _ _ _ (h3 rfl)
    | true =>
      simp only [if_true]
      have h4 := h2 rfl
      rw [opK_eq]
      unfold opP at h4
      cases hk : kindC op with
      | light =>
        simp only [hk] at h4 ⊢
        obtain ⟨u, h5, h6⟩ := lightP_inv ht h4
        rw [h5]
        exact ih _ _ _ h6
      | make =>
        simp only [hk] at h4 ⊢
        obtain ⟨u, ob, h5, h6⟩ := makeP_inv ht h4
        simp only [makeNow, forceN_eq, h5, forceTr_eq, optK_eq]
        exact ih _ _ _ h6
      | heavy =>
        simp only [hk] at h4 ⊢
        obtain ⟨r, h5, h6⟩ := heavyP_inv ht h4
        rw [h5]
        have esc : afterK r (allGood C w0 f0 cs0 v) C (.waitS ops V i rest fin) k ⟨fn, n, lv, df, dd, none, cs⟩ t S nx = some v := by
          refine after_of hs rfl env (fun u S nx q => ⟨_, rfl, ?_⟩) hρ h6
          exact good_step env (ih _ _ _ q)
        cases r with
        | val u => exact ih _ _ _ h6
        | vals u S' nx' => exact ih _ _ _ h6
        | _ => exact esc
theorem drawnP_sound (env : Env C w0 φ0 D0) (hs : AV.same 30 v v = true) {ops : Array Oper} {base : Nat} {fin : List (Nat × Nat)} {k : List AItem} {T : TF} {t : Tr AV} (ht : TFok T t) {κ : HK} {ρ : VK}
    (hκ : ∀ T t S nx, TFok T t → κ T S nx → GoodAt C w0 f0 cs0 .run k ⟨fn, n, lv, df, dd, none, cs⟩ t S nx v)
    (hρ : ∀ u S nx todo T, ρ u S nx → GoodAt C w0 f0 cs0 (.panicking [⟨u, false⟩]) todo ⟨fn, n, lv, df, dd, none, cs⟩ T S nx v) :
    ∀ (stages : List Stage) (V : List (Nat × AV)) (S : Tr AObj) (nx : Nat), drawnP C base fin T κ ρ stages V S nx → drawnK (allGood C w0 f0 cs0 v) C ops base V stages fin k ⟨fn, n, lv, df, dd, none, cs⟩ t S nx = some v := by
  intro stages
  induction stages with
  | nil => intro V S nx h; exact h.elim
  | cons s rest ih =>
    intro V S nx h
    obtain ⟨V', S', h1, h2⟩ := lightsP_inv ht (show lightsP C base T s.lights V S _ from h)
    obtain ⟨h3, h4⟩ := reP_inv ht h2
    simp only [drawnK, h1, h3, cnd_true]
    cases hh : s.heavy with
    | none =>
      simp only [hh] at h4
      obtain ⟨T', t', h5, h6, h7⟩ := finP_inv ht h4
      simp only [finK_eq, h5, optK_eq]
      exact allGood_some (hκ _ _ _ _ h6 h7)
    | some hx =>
      simp only [hh] at h4
      obtain ⟨w, h5, h6, h7⟩ := wantP_inv ((wantS_iff ..).mp h4)
      simp only [h5]
      cases w with
      | false => simp only [cnd_false]; exact allGood_some (good_step env (ih _ _ _ (h7 rfl)))
      | true =>
        obtain ⟨r, h8, h9⟩ := heavyP_inv ht (h6 rfl)
        simp only [cnd_true, h8]
        refine after_of hs rfl env (fun u S nx q => ⟨_, rfl, ?_⟩) hρ h9
        exact good_step env (ih _ _ _ q)
/-- where an exit leads, if it leads anywhere -/
def ExitOk (C : Cfg) (w0 : World) (f0 : Nat) (cs0 : List Frame) (v : AV) (F : FX) (k : List AItem) (id : Nat) : HK := fun T S nx => ∃ k', exitTo id k = some k' ∧ ∀ t, TFok T t → GoodAt C w0 f0 cs0 .run k' F t S nx v
theorem codeP_sound (env : Env C w0 φ0 D0) (hs : AV.same 30 v v = true) {ρ : VK}
    (hρ : ∀ u S nx todo T, ρ u S nx → GoodAt C w0 f0 cs0 (.panicking [⟨u, false⟩]) todo ⟨fn, n, lv, df, dd, none, cs⟩ T S nx v) :
    ∀ (c : Code) (k : List AItem) (κ : HK) (e : Nat → HK) (r : HK) (T : TF) (t : Tr AV) (S : Tr AObj) (nx : Nat),
      (∀ T t S nx, TFok T t → κ T S nx → GoodAt C w0 f0 cs0 .run k ⟨fn, n, lv, df, dd, none, cs⟩ t S nx v) →
      (∀ id T S nx, e id T S nx → ExitOk C w0 f0 cs0 v ⟨fn, n, lv, df, dd, none, cs⟩ k id T S nx) →
      (∀ T t S nx todo, TFok T t → r T S nx → GoodAt C w0 f0 cs0 .returning todo ⟨fn, n, lv, df, dd, none, cs⟩ t S nx v) →
      TFok T t → codeP C n lv ρ c κ e r T S nx → codeL c (allGood C w0 f0 cs0 v) C k ⟨fn, n, lv, df, dd, none, cs⟩ t S nx = some v := by
  intro c
  induction c with
  | skip => intro k κ e r T t S nx hκ he hr ht h; exact allGood_some (hκ _ _ _ _ ht h)
  | region id ops d =>
    intro k κ e r T t S nx hκ he hr ht h
    cases d with
    | false =>
      obtain ⟨q, h1, h2⟩ := optP_iff.1 (show optP (mkSeq C n ops lv) (fun r => seqP C r.fin T κ ρ r.rest [] S nx) from h)
      show optK (mkSeq C n ops lv) (fun r => CSeq.rec (motive := fun _ => Res) (fun rest fin => seqL rest ⟨allGood C w0 f0 cs0 v, ops, fin, k, ⟨fn, n, lv, df, dd, none, cs⟩⟩ C t [] S nx) r) = some v
      rw [h1]
      exact seqP_sound env hs ht hκ hρ _ _ _ _ h2
    | true =>
      obtain ⟨q, h1, h2⟩ := optP_iff.1 (show optP (mkDrawn C n ops lv) (fun r => letN (nx + ops.size) fun nx' => drawnP C nx r.fin T κ ρ r.stages [] S nx') from h)
      show optK (mkDrawn C n ops lv) (fun r => CDrawn.rec (motive := fun _ => Res) (fun stages fin => forceN nx fun nx => drawnK (allGood C w0 f0 cs0 v) C ops nx [] stages fin k ⟨fn, n, lv, df, dd, none, cs⟩ t S (nx + ops.size)) r) = some v
      rw [h1]
      show forceN nx (fun nx => drawnK (allGood C w0 f0 cs0 v) C ops nx [] q.stages q.fin k ⟨fn, n, lv, df, dd, none, cs⟩ t S (nx + ops.size)) = some v
      rw [forceN_eq]
      exact drawnP_sound env hs ht hκ hρ _ _ _ _ h2.out
  | seq a b iha ihb =>
    intro k κ e r T t S nx hκ he hr ht h
    refine iha (.code b :: k) (codeP C n lv ρ b κ e r) e r T t S nx (fun T t S nx ht h => ?_) (fun id T S nx h => ?_) hr ht h
    · exact good_step env (ihb k κ e r T t S nx hκ he hr ht h)
    · obtain ⟨k', h1, h2⟩ := he id T S nx h
      exact ⟨k', by simpa [exitTo] using h1, h2⟩
  | cond c a b iha ihb =>
    intro k κ e r T t S nx hκ he hr ht h
    obtain ⟨u, h1, h2⟩ := opdP_inv (V := []) (srcs := []) ht (show opdP [] [] T c _ from h)
    obtain ⟨tt, rfl, h3, h4⟩ := boolP_inv h2.out
    have h5 : evalT t c = some (.bool tt) := by
      cases c <;> first | (simp [evo, evalT] at h1; done) | simpa [evo, evalT] using h1
    show condL c t (codeL a (allGood C w0 f0 cs0 v) C k ⟨fn, n, lv, df, dd, none, cs⟩ t S nx) (codeL b (allGood C w0 f0 cs0 v) C k ⟨fn, n, lv, df, dd, none, cs⟩ t S nx) = some v
    simp only [condL, optK_eq, h5]
    cases tt with
    | true => exact iha k κ e r T t S nx hκ he hr ht (h3 rfl)
    | false => exact ihb k κ e r T t S nx hκ he hr ht (h4 rfl)
  | block id b ihb =>
    intro k κ e r T t S nx hκ he hr ht h
    refine ihb (.inBlock id :: k) κ (exitP id κ e) r T t S nx (fun T t S nx ht h => good_step env (allGood_some (hκ T t S nx ht h))) (fun id' T S nx h => ?_) hr ht h.out
    unfold exitP at h
    rw [cnd_beq] at h
    by_cases hid : id = id'
    · rw [if_pos hid] at h
      exact ⟨k, by simp [exitTo, hid, cnd_beq], fun t ht => hκ T t S nx ht h⟩
    · rw [if_neg hid] at h
      obtain ⟨k', h1, h2⟩ := he id' T S nx h
      exact ⟨k', by simp [exitTo, cnd_beq, hid, h1], h2⟩
  | loop b ihb =>
    intro k κ e r T t S nx hκ he hr ht h
    obtain ⟨I, ⟨m, hm⟩, hI⟩ := (show loopP (fun again => codeP C n lv ρ b again e r) T S nx from h).out
    have main : ∀ m T t S nx, I m T S nx → TFok T t → codeL b (allGood C w0 f0 cs0 v) C (.inLoop b :: k) ⟨fn, n, lv, df, dd, none, cs⟩ t S nx = some v := by
      intro m
      induction m using Nat.strongRecOn with
      | ind m ihm =>
        intro T t S nx hm ht
        refine ihb (.inLoop b :: k) _ e r T t S nx (fun T t S nx ht h => ?_) (fun id T S nx h => ?_) hr ht (hI m T S nx hm)
        · obtain ⟨m', hlt, hm'⟩ := h
          exact good_step env (ihm m' hlt T t S nx hm' ht)
        · obtain ⟨k', h1, h2⟩ := he id T S nx h
          exact ⟨k', by simpa [exitTo] using h1, h2⟩
    exact main m T t S nx hm ht
  | rangeFunc f params assign body _ _ => intro k κ e r T t S nx hκ he hr ht h; exact h.elim
  | exit id =>
    intro k κ e r T t S nx hκ he hr ht h
    obtain ⟨k', h1, h2⟩ := he id T S nx h
    show exitK id (allGood C w0 f0 cs0 v) C k ⟨fn, n, lv, df, dd, none, cs⟩ t S nx = some v
    simp only [exitK, h1]
    exact allGood_some (h2 t ht)
  | scope b ihb =>
    intro k κ e r T t S nx hκ he hr ht h
    refine ihb (.inScope b :: k) κ e r T t S nx (fun T t S nx ht h => good_step env (allGood_some (hκ T t S nx ht h))) (fun id T S nx h => ?_) hr ht h
    obtain ⟨k', h1, h2⟩ := he id T S nx h
    exact ⟨k', by simpa [exitTo] using h1, h2⟩
  | label l => intro k κ e r T t S nx hκ he hr ht h; exact allGood_some (hκ _ _ _ _ ht h)
  | goto l => intro k κ e r T t S nx hκ he hr ht h; exact h.elim
  | ret =>
    intro k κ e r T t S nx hκ he hr ht h
    show leave (some .ret) (allGood C w0 f0 cs0 v) C (.code .ret :: k) ⟨fn, n, lv, df, dd, none, cs⟩ t S nx = some v
    simp only [leave, jumpEnd, cnd_true]
    exact allGood_some (hr _ _ _ _ _ ht h)
  | refuse s => intro k κ e r T t S nx hκ he hr ht h; exact h.elim
end
theorem argsTF_ok (args : List AV) : TFok (argsTF args) (Tr.ofList args 0 .nil) := by
  intro n v h
  rw [ofList_get]
  simpa [argsTF] using h
/-- WHAT THE LOGIC TELLS OF A FUNCTION'S TEXT HOLDS OF ITS CALLS -/
theorem fn_sound {C : Cfg} {f : Nat} {args : List AV} {S : Tr AObj} {nx : Nat} {Q R : VK} (hc : fnChk C f args.length = true) (h : fnCode C f args S nx Q R) : CallOk C f args S nx Q R := by
  intro w0 φ0 D0 env f0 cs0 v hs cs hQ hR
  unfold fnCode at h
  unfold fnChk at hc
  unfold enterK
  split at h
  · rename_i fn hf
    split at h
    · rename_i c hb
      rw [hf] at hc
      simp only [hb] at hc
      rw [hf]
      simp only [hb, forceN_eq, hc, cnd_true]
      have hret : ∀ T t S nx todo, TFok T t → resultsP C S T fn.results.toList (fun vs => Q (one vs) S nx) →
          GoodAt C w0 f0 cs0 .returning todo ⟨f, fn.ntmps, Nat.lor (liveOf c) (resMask fn.results.toList), [], false, none, cs⟩ t S nx v := by
        intro T t S nx todo ht h
        obtain ⟨vs, h1, h2⟩ := resultsP_inv ht h
        refine good_step env ?_
        show stepRet todo (allGood C w0 f0 cs0 v) C ⟨f, fn.ntmps, Nat.lor (liveOf c) (resMask fn.results.toList), [], false, none, cs⟩ t S nx = some v
        simp only [stepRet, hf, h1]
        exact hQ _ _ _ h2
      refine allGood_some (good_step env ?_)
      refine codeP_sound env hs (fun u S nx todo T h => ?_) c [] _ _ _ _ _ S nx (fun T t S nx ht h => ?_) (fun id T S nx h => h.elim) (fun T t S nx todo ht h => hret T t S nx todo ht h) (argsTF_ok args) h
      · refine good_step env ?_
        have := hR u S nx h
        show stepPan [⟨u, false⟩] todo (allGood C w0 f0 cs0 v) C ⟨f, fn.ntmps, Nat.lor (liveOf c) (resMask fn.results.toList), [], false, none, cs⟩ T S nx = some v
        cases cs with
        | nil => exact this.elim
        | cons c rest => exact this
      · refine good_step env ?_
        show leave none (allGood C w0 f0 cs0 v) C [] ⟨f, fn.ntmps, Nat.lor (liveOf c) (resMask fn.results.toList), [], false, none, cs⟩ t S nx = some v
        simp only [leave, jumpEnd, cnd_true]
        exact allGood_some (hret T t S nx [] ht h)
    · exact h.elim
  · exact h.elim
/-- a call that the logic tells the value of, in the model -/
theorem callOk_calls {C : Cfg} {w0 : World} {φ0 : Phi} {D0 : Nat → Prop} (env : Env C w0 φ0 D0) {f : Nat} {args : List AV} {v : AV} (hs : AV.same 30 v v = true) (ga : goods D0 args)
    (h : CallOk C f args .nil C.n0 (fun u _ _ => u = v) (fun _ _ _ => False)) : Calls C.P f (concs φ0 args).toArray w0 fun e w' => (∃ φ, e = .returned (conc φ v)) ∧ Below w0.heap.size w0 w' := by
  intro cs1
  have hE : Ends C w0 f cs1 v (lone (Frame.enter C.P f (concs φ0 args).toArray .normal) cs1 w0) :=
    enter_normal allGood_sound env.base (Below.refl _ _) env.gi (Nat.le_refl _) .nil (fun _ => rfl) ga
      (h w0 φ0 D0 env f cs1 v hs [] (fun u S' nx' e => by subst e; rfl) (fun u S' nx' e => e.elim))
  obtain ⟨φ, w', fr, e1, e2, e3, e4⟩ := hE
  exact ⟨.returned (conc φ v), w', fr, ⟨⟨φ, rfl⟩, e4⟩, e1, e3, e2⟩
end
end Go.AE

/-! ## What operations come to, by their operands' forms -/
namespace Go.AE
noncomputable section
section
variable {C : Cfg} {S : Tr AObj} {nx : Nat}

/-! ### The heap -/
theorem hget_new {b : Nat} {o : Option AObj} (h : C.n0 ≤ b) : hget C (hset C S b o) b = o := by rw [hget_hset _ h, if_pos rfl]
theorem hget_old {b x : Nat} {o : Option AObj} (h : C.n0 ≤ b) (hx : x ≠ b) : hget C (hset C S b o) x = hget C S x := by rw [hget_hset _ h, if_neg hx]
theorem ld1_of {b o n : Nat} {c : Tr AV} {st : St} {v : AV} (h : hget C S b = some (.cells c n st)) (hv : c.get o = some v) : aLd1 C S (.ptr b o) = some v := by simp [aLd1, cellsOf, h, hv]
theorem ld1_eq (b o : Nat) : aLd1 C S (.ptr b o) = match hget C S b with | some (.cells c _ _) => c.get o | _ => none := by
  simp only [aLd1, cellsOf]
  cases hget C S b with
  | none => rfl
  | some ob => cases ob <;> rfl
theorem ldN_eq (n b o : Nat) : aLdN C S n (.ptr b o) = match hget C S b with | some (.cells c _ _) => (c.getN o n).map AV.agg | _ => none := by
  simp only [aLdN, cellsOf]
  cases hget C S b with
  | none => rfl
  | some ob =>
    cases ob with
    | cells c m st => simp only []; cases c.getN o n <;> rfl
    | _ => rfl
theorem getN_zero (c : Tr AV) (o : Nat) : c.getN o 0 = some [] := rfl
theorem getN_succ (c : Tr AV) (o n : Nat) : c.getN o (n + 1) = (c.get o).bind fun a => (c.getN (o + 1) n).map (a :: ·) := by
  simp only [Tr.getN]
  cases c.get o with
  | none => rfl
  | some a => cases c.getN (o + 1) n <;> rfl
theorem writeN_get : ∀ (l : List AV) (c : Tr AV) (o i : Nat), (writeN c o l).get i = if o ≤ i ∧ i < o + l.length then l[i - o]? else c.get i := by
  intro l
  induction l with
  | nil => intro c o i; simp [writeN]; intro h1 h2; omega
  | cons a l ih =>
    intro c o i
    simp only [writeN, forceTr_eq]
    rw [ih, Tr.get_set]
    by_cases h1 : i = o
    · subst h1
      simp
      intro h; omega
    · by_cases h2 : o + 1 ≤ i ∧ i < o + 1 + l.length
      · rw [if_pos h2, if_pos (by simp; omega)]
        rw [show i - o = (i - (o + 1)) + 1 by omega]
        simp
      · rw [if_neg h2, if_neg (fun e => h1 e.symm), if_neg (by simp; omega)]

theorem ld1_new {b o n : Nat} {c : Tr AV} {st : St} (h : C.n0 ≤ b) : aLd1 C (hset C S b (some (.cells c n st))) (.ptr b o) = c.get o := by
  rw [ld1_eq, hget_new h]
theorem ld1_old {b x o : Nat} {ob : Option AObj} (h : C.n0 ≤ b) (hx : x ≠ b) : aLd1 C (hset C S b ob) (.ptr x o) = aLd1 C S (.ptr x o) := by
  rw [ld1_eq, ld1_eq, hget_old h hx]
/-- cells one behind the other -/
def ldL (C : Cfg) (S : Tr AObj) (b : Nat) : Nat → Nat → Option (List AV)
  | _, 0 => some []
  | o, n + 1 => (aLd1 C S (.ptr b o)).bind fun a => (ldL C S b (o + 1) n).bind fun l => some (a :: l)
theorem ldN_ldL {b o n : Nat} : aLdN C S (n + 1) (.ptr b o) = (ldL C S b o (n + 1)).bind fun l => some (.agg l) := by
  have h : ∀ (c : Tr AV) (m : Nat) (st : St), hget C S b = some (.cells c m st) → ∀ n o, ldL C S b o n = c.getN o n := by
    intro c m st hb n
    induction n with
    | zero => intro o; rfl
    | succ n ih =>
      intro o
      simp only [ldL, Tr.getN, ld1_eq, hb, ih]
      cases c.get o with
      | none => rfl
      | some a => cases c.getN (o + 1) n <;> rfl
  rw [ldN_eq]
  cases hb : hget C S b with
  | none => simp [ldL, ld1_eq, hb]
  | some ob =>
    cases ob with
    | cells c m st =>
      simp only [h c m st hb]
      cases c.getN o (n + 1) <;> rfl
    | _ => simp [ldL, ld1_eq, hb]
/-- nothing that stood below nx has turned -/
structure Exts (C : Cfg) (S : Tr AObj) (nx : Nat) (S' : Tr AObj) (nx' : Nat) : Prop where
  le : nx ≤ nx'
  keep : ∀ b, b < nx → hget C S' b = hget C S b
theorem Exts.refl (S : Tr AObj) (nx : Nat) : Exts C S nx S nx := ⟨Nat.le_refl _, fun _ _ => rfl⟩
theorem Exts.trans {S1 S2 S3 : Tr AObj} {n1 n2 n3 : Nat} (h : Exts C S1 n1 S2 n2) (k : Exts C S2 n2 S3 n3) : Exts C S1 n1 S3 n3 :=
  ⟨Nat.le_trans h.le k.le, fun b hb => (k.keep b (Nat.lt_of_lt_of_le hb h.le)).trans (h.keep b hb)⟩
theorem Exts.ld1 {S' : Tr AObj} {nx' : Nat} (h : Exts C S nx S' nx') (b o : Nat) (hb : b < nx) : aLd1 C S' (.ptr b o) = aLd1 C S (.ptr b o) := by
  rw [ld1_eq, ld1_eq, h.keep b hb]
theorem Exts.fresh (h : C.n0 ≤ nx) (ob : Option AObj) : Exts C S nx (hset C S nx ob) (nx + 1) :=
  ⟨Nat.le_succ _, fun b hb => hget_old h (by omega)⟩
theorem Exts.put {S' : Tr AObj} {nx' b : Nat} (k : Exts C S nx S' nx') (h : C.n0 ≤ b) (hb : nx ≤ b) (ob : Option AObj) (hn : nx ≤ nx' + 1) : Exts C S nx (hset C S' b ob) nx' :=
  ⟨k.le, fun x hx => (hget_old h (by omega)).trans (k.keep x hx)⟩
theorem Exts.more {S' : Tr AObj} {nx' n : Nat} (k : Exts C S nx S' nx') (h : nx' ≤ n) : Exts C S nx S' n := ⟨Nat.le_trans k.le h, k.keep⟩
/-- what stands below less has not turned, either -/
theorem Exts.more' {S' : Tr AObj} {nx' lim : Nat} (k : Exts C S nx S' nx') (h : lim ≤ nx) : Exts C S lim S' nx' := ⟨Nat.le_trans h k.le, fun b hb => k.keep b (Nat.lt_of_lt_of_le hb h)⟩
/-- a store into a block that nobody else holds -/
theorem st_own {b o n : Nat} {c : Tr AV} {v : AV} (h : hget C S b = some (.cells c n .own)) (hb : C.n0 ≤ b) (ho : o + 1 ≤ n) (hv : v.cells = [v]) (h1 : oneV v = true) :
    stV C S 1 (.ptr b o) v = some (hset C S b (some (.cells (c.set o (some v)) n .own))) := by
  have e1 : Nat.ble (o + 1) n = true := by simpa using ho
  have e2 : Nat.ble C.n0 b = true := by simpa using hb
  simp [stV, hv, aWrite, h, dyn, ones, h1, e1, e2, writeN, cnd_ite, Nat.blt]

/-! ### Simp goes into what comes first alone -/
theorem optR_go {α : Type} {a : α} {κ : α → Prop} (h : κ a) : optR (some a) κ := ⟨h⟩
theorem optP_go {α : Type} {a : α} {κ : α → Prop} (h : κ a) : optP (some a) κ := h
theorem boxP_go {a : AV} {κ : VK} (h : κ (.ptr nx 0) (hset C S nx (some (.cells (Tr.ofList a.cells 0 .nil) a.cells.length .own))) (nx + 1)) : boxP C S nx a κ := ⟨h⟩
theorem mkP_go {v : AV} {ob : AObj} {κ : VK} (h : κ v (hset C S nx (some ob)) (nx + 1)) : mkP C S nx v ob κ := ⟨h⟩
theorem mkP_pair {v : AV} {ob : AObj} {κ : VK} (h : κ v (hset C S nx (some ob)) (nx + 1)) : mkP C S nx (Prod.mk v ob).1 (Prod.mk v ob).2 κ := ⟨h⟩
theorem mkAtP_pair {b : Nat} {v : AV} {ob : AObj} {κ : AV → Tr AObj → Prop} (h : κ v (hset C S b (some ob))) : mkAtP C S b (Prod.mk v ob).1 (Prod.mk v ob).2 κ := ⟨h⟩
theorem boxAtP_go {b : Nat} {a : AV} {κ : AV → Tr AObj → Prop} (h : κ (.ptr b 0) (hset C S b (some (.cells (Tr.ofList a.cells 0 .nil) a.cells.length .own)))) : boxAtP C S b a κ := ⟨h⟩
theorem mkAtP_go {b : Nat} {v : AV} {ob : AObj} {κ : AV → Tr AObj → Prop} (h : κ v (hset C S b (some ob))) : mkAtP C S b v ob κ := ⟨h⟩
theorem joinH_go {J : HK} {body : HK → Prop} (h : body J) : joinH J body := ⟨h⟩
theorem joinV_go {J : VK} {body : VK → Prop} (h : body J) : joinV J body := ⟨h⟩
theorem joinA_go {J : AV → Prop} {body : (AV → Prop) → Prop} (h : body J) : joinA J body := ⟨h⟩
theorem joinL_go {J : AV → Tr AObj → Prop} {body : (AV → Tr AObj → Prop) → Prop} (h : body J) : joinL J body := ⟨h⟩
theorem joinQ_go {J : Prop} {body : Prop → Prop} (h : body J) : joinQ J body := ⟨h⟩
theorem letN_go {n : Nat} {κ : Nat → Prop} (h : κ n) : letN n κ := ⟨h⟩
theorem resP_go {v : AV} {S' : Tr AObj} {nx' : Nat} {κ : VK} (h : κ v S' nx') : resP (some (.vals v S' nx')) S nx κ := ⟨h⟩
theorem resP_go' {v : AV} {κ : VK} (h : κ v S nx) : resP (some (.val v)) S nx κ := ⟨h⟩
theorem boolP_tt {a b : Prop} (h : a) : boolP (.bool true) a b := ⟨⟨fun _ => h, fun e => (by cases e)⟩⟩
theorem boolP_ff {a b : Prop} (h : b) : boolP (.bool false) a b := ⟨⟨fun e => (by cases e), fun _ => h⟩⟩
theorem guardP_tt {a b : Prop} (h : a) : guardP true (.bool true) a b := ⟨⟨fun _ => h, fun e => (by cases e)⟩⟩
theorem guardP_tf {a b : Prop} (h : b) : guardP true (.bool false) a b := ⟨⟨fun e => (by cases e), fun _ => h⟩⟩
theorem guardP_ft {a b : Prop} (h : b) : guardP false (.bool true) a b := ⟨⟨fun e => (by cases e), fun _ => h⟩⟩
theorem guardP_ff {a b : Prop} (h : a) : guardP false (.bool false) a b := ⟨⟨fun _ => h, fun e => (by cases e)⟩⟩
theorem invokeP_go {f : Nat} {a as b : List AV} {κ ρ : VK} (h : callP C f ((a ++ as) ++ b) S nx κ ρ) : invokeP C (.func (.func f) a b) as S nx κ ρ := ⟨h⟩
theorem sameP_go {x y : AV} {κ : Prop} (h : AV.same 30 x y = true) (k : κ) : sameP x (some y) κ := ⟨⟨h, k⟩⟩
theorem optP_congr {α : Type} {o o' : Option α} {κ : α → Prop} (h : o = o') : optP o κ = optP o' κ := by rw [h]
theorem optR_congr {α : Type} {o o' : Option α} {κ : α → Prop} (h : o = o') : optR o κ = optR o' κ := by rw [h]
theorem resP_congr {o o' : Option ARes} {κ : VK} (h : o = o') : resP o S nx κ = resP o' S nx κ := by rw [h]
theorem forkP_congr {o o' : Option ARes} {κ : VK} (h : o = o') : forkP o S nx κ = forkP o' S nx κ := by rw [h]
theorem boolP_congr {v v' : AV} {a b : Prop} (h : v = v') : boolP v a b = boolP v' a b := by rw [h]
theorem guardP_congr {w : Bool} {v v' : AV} {a b : Prop} (h : v = v') : guardP w v a b = guardP w v' a b := by rw [h]
theorem callP_congr {f : Nat} {as as' : List AV} {κ ρ : VK} (h : as = as') : callP C f as S nx κ ρ = callP C f as' S nx κ ρ := by rw [h]
theorem invokeP_congr {fv fv' : AV} {as as' : List AV} {κ ρ : VK} (h : fv = fv') (h2 : as = as') : invokeP C fv as S nx κ ρ = invokeP C fv' as' S nx κ ρ := by rw [h, h2]
theorem boxP_congr {a a' : AV} {κ : VK} (h : a = a') : boxP C S nx a κ = boxP C S nx a' κ := by rw [h]
theorem mkP_congr {a a' : AV} {ob ob' : AObj} {κ : VK} (h : a = a') (h2 : ob = ob') : mkP C S nx a ob κ = mkP C S nx a' ob' κ := by rw [h, h2]
theorem loopP_congr {b : HK → HK} {T : TF} {S : Tr AObj} {n n' : Nat} (h : n = n') : loopP b T S n = loopP b T S n' := by rw [h]
theorem callP.mono {f : Nat} {as : List AV} {κ ρ κ' ρ' : VK} (h : callP C f as S nx κ ρ) (hκ : ∀ u S' nx', κ u S' nx' → κ' u S' nx') (hρ : ∀ u S' nx', ρ u S' nx' → ρ' u S' nx') : callP C f as S nx κ' ρ' := by
  rcases h.out with ⟨u, h1, h2⟩ | ⟨h1, h2, h3⟩
  · exact ⟨.inl ⟨u, h1, hκ _ _ _ h2⟩⟩
  · exact ⟨.inr ⟨h1, h2, h3.mono hκ hρ⟩⟩
theorem fnChk_body {f na : Nat} (h : fnChk C f na = true) : ∃ fn c, C.P.funcs[f]? = some fn ∧ fn.body = some c := by
  unfold fnChk at h
  split at h
  · rename_i fn hf
    split at h
    · rename_i c hc; exact ⟨fn, c, hf, hc⟩
    · cases h
  · cases h
theorem callP_fn {f : Nat} {as : List AV} {κ ρ : VK} (hc : fnChk C f as.length = true) (ho : C.orc f as = none) (h : fnCode C f as S nx κ ρ) : callP C f as S nx κ ρ :=
  ⟨.inr ⟨ho, fnChk_body hc, fn_sound hc h⟩⟩
theorem callP_known {f : Nat} {as : List AV} {κ ρ : VK} {u : AV} (ho : C.orc f as = some u) (h : κ u S nx) : callP C f as S nx κ ρ := ⟨.inl ⟨u, ho, h⟩⟩
theorem resP_some_vals (v : AV) (S' : Tr AObj) (nx' : Nat) (κ : VK) : resP (some (.vals v S' nx')) S nx κ = κ v S' nx' := resP_eq ..
theorem resP_some_val (v : AV) (κ : VK) : resP (some (.val v)) S nx κ = κ v S nx := resP_eq ..
theorem invokeP_func (f : Nat) (a as b : List AV) (κ ρ : VK) : invokeP C (.func (.func f) a b) as S nx κ ρ = callP C f ((a ++ as) ++ b) S nx κ ρ := propext ⟨fun h => h.out, fun h => ⟨h⟩⟩
theorem setTF_eq (T : TF) (d n : Nat) (v : AV) : setTF T d v n = if d = n then some v else T n := by unfold setTF; rw [cnd_beq]
theorem guardP_true (a b : Prop) : guardP true (.bool true) a b = a := propext ⟨fun h => h.out.1 rfl, fun h => ⟨fun _ => h, fun e => (by cases e)⟩⟩
theorem guardP_false (a b : Prop) : guardP true (.bool false) a b = b := propext ⟨fun h => h.out.2 rfl, fun h => ⟨fun e => (by cases e), fun _ => h⟩⟩
theorem guardP_true' (a b : Prop) : guardP false (.bool true) a b = b := propext ⟨fun h => h.out.2 rfl, fun h => ⟨fun e => (by cases e), fun _ => h⟩⟩
theorem guardP_false' (a b : Prop) : guardP false (.bool false) a b = a := propext ⟨fun h => h.out.1 rfl, fun h => ⟨fun _ => h, fun e => (by cases e)⟩⟩
theorem boolP_true (a b : Prop) : boolP (.bool true) a b = a := propext ⟨fun h => h.out.1 rfl, fun h => ⟨fun _ => h, fun e => (by cases e)⟩⟩
theorem boolP_false (a b : Prop) : boolP (.bool false) a b = b := propext ⟨fun h => h.out.2 rfl, fun h => ⟨fun e => (by cases e), fun _ => h⟩⟩
theorem boolP_dec {p : Prop} [Decidable p] {a b : Prop} (h1 : p → a) (h2 : ¬ p → b) : boolP (.bool (decide p)) a b := ⟨fun e => h1 (by simpa using e), fun e => h2 (by simpa using e)⟩

theorem ld_2 (b o : Nat) : aLdN C S 2 (.ptr b o) = (aLd1 C S (.ptr b o)).bind fun x0 => (aLd1 C S (.ptr b (o + 1))).bind fun x1 => some (.agg [x0, x1]) := by
  rw [ldN_ldL]
  simp only [ldL, Nat.add_assoc, Nat.reduceAdd, Option.bind_assoc, Option.bind_some]
theorem ld_3 (b o : Nat) : aLdN C S 3 (.ptr b o) = (aLd1 C S (.ptr b o)).bind fun x0 => (aLd1 C S (.ptr b (o + 1))).bind fun x1 => (aLd1 C S (.ptr b (o + 2))).bind fun x2 => some (.agg [x0, x1, x2]) := by
  rw [ldN_ldL]
  simp only [ldL, Nat.add_assoc, Nat.reduceAdd, Option.bind_assoc, Option.bind_some]
theorem ld_4 (b o : Nat) : aLdN C S 4 (.ptr b o) = (aLd1 C S (.ptr b o)).bind fun x0 => (aLd1 C S (.ptr b (o + 1))).bind fun x1 => (aLd1 C S (.ptr b (o + 2))).bind fun x2 => (aLd1 C S (.ptr b (o + 3))).bind fun x3 => some (.agg [x0, x1, x2, x3]) := by
  rw [ldN_ldL]
  simp only [ldL, Nat.add_assoc, Nat.reduceAdd, Option.bind_assoc, Option.bind_some]
theorem ld_5 (b o : Nat) : aLdN C S 5 (.ptr b o) = (aLd1 C S (.ptr b o)).bind fun x0 => (aLd1 C S (.ptr b (o + 1))).bind fun x1 => (aLd1 C S (.ptr b (o + 2))).bind fun x2 => (aLd1 C S (.ptr b (o + 3))).bind fun x3 => (aLd1 C S (.ptr b (o + 4))).bind fun x4 => some (.agg [x0, x1, x2, x3, x4]) := by
  rw [ldN_ldL]
  simp only [ldL, Nat.add_assoc, Nat.reduceAdd, Option.bind_assoc, Option.bind_some]
theorem ld_6 (b o : Nat) : aLdN C S 6 (.ptr b o) = (aLd1 C S (.ptr b o)).bind fun x0 => (aLd1 C S (.ptr b (o + 1))).bind fun x1 => (aLd1 C S (.ptr b (o + 2))).bind fun x2 => (aLd1 C S (.ptr b (o + 3))).bind fun x3 => (aLd1 C S (.ptr b (o + 4))).bind fun x4 => (aLd1 C S (.ptr b (o + 5))).bind fun x5 => some (.agg [x0, x1, x2, x3, x4, x5]) := by
  rw [ldN_ldL]
  simp only [ldL, Nat.add_assoc, Nat.reduceAdd, Option.bind_assoc, Option.bind_some]
theorem ld_7 (b o : Nat) : aLdN C S 7 (.ptr b o) = (aLd1 C S (.ptr b o)).bind fun x0 => (aLd1 C S (.ptr b (o + 1))).bind fun x1 => (aLd1 C S (.ptr b (o + 2))).bind fun x2 => (aLd1 C S (.ptr b (o + 3))).bind fun x3 => (aLd1 C S (.ptr b (o + 4))).bind fun x4 => (aLd1 C S (.ptr b (o + 5))).bind fun x5 => (aLd1 C S (.ptr b (o + 6))).bind fun x6 => some (.agg [x0, x1, x2, x3, x4, x5, x6]) := by
  rw [ldN_ldL]
  simp only [ldL, Nat.add_assoc, Nat.reduceAdd, Option.bind_assoc, Option.bind_some]
theorem ld_8 (b o : Nat) : aLdN C S 8 (.ptr b o) = (aLd1 C S (.ptr b o)).bind fun x0 => (aLd1 C S (.ptr b (o + 1))).bind fun x1 => (aLd1 C S (.ptr b (o + 2))).bind fun x2 => (aLd1 C S (.ptr b (o + 3))).bind fun x3 => (aLd1 C S (.ptr b (o + 4))).bind fun x4 => (aLd1 C S (.ptr b (o + 5))).bind fun x5 => (aLd1 C S (.ptr b (o + 6))).bind fun x6 => (aLd1 C S (.ptr b (o + 7))).bind fun x7 => some (.agg [x0, x1, x2, x3, x4, x5, x6, x7]) := by
  rw [ldN_ldL]
  simp only [ldL, Nat.add_assoc, Nat.reduceAdd, Option.bind_assoc, Option.bind_some]
theorem ld_9 (b o : Nat) : aLdN C S 9 (.ptr b o) = (aLd1 C S (.ptr b o)).bind fun x0 => (aLd1 C S (.ptr b (o + 1))).bind fun x1 => (aLd1 C S (.ptr b (o + 2))).bind fun x2 => (aLd1 C S (.ptr b (o + 3))).bind fun x3 => (aLd1 C S (.ptr b (o + 4))).bind fun x4 => (aLd1 C S (.ptr b (o + 5))).bind fun x5 => (aLd1 C S (.ptr b (o + 6))).bind fun x6 => (aLd1 C S (.ptr b (o + 7))).bind fun x7 => (aLd1 C S (.ptr b (o + 8))).bind fun x8 => some (.agg [x0, x1, x2, x3, x4, x5, x6, x7, x8]) := by
  rw [ldN_ldL]
  simp only [ldL, Nat.add_assoc, Nat.reduceAdd, Option.bind_assoc, Option.bind_some]
theorem ld_10 (b o : Nat) : aLdN C S 10 (.ptr b o) = (aLd1 C S (.ptr b o)).bind fun x0 => (aLd1 C S (.ptr b (o + 1))).bind fun x1 => (aLd1 C S (.ptr b (o + 2))).bind fun x2 => (aLd1 C S (.ptr b (o + 3))).bind fun x3 => (aLd1 C S (.ptr b (o + 4))).bind fun x4 => (aLd1 C S (.ptr b (o + 5))).bind fun x5 => (aLd1 C S (.ptr b (o + 6))).bind fun x6 => (aLd1 C S (.ptr b (o + 7))).bind fun x7 => (aLd1 C S (.ptr b (o + 8))).bind fun x8 => (aLd1 C S (.ptr b (o + 9))).bind fun x9 => some (.agg [x0, x1, x2, x3, x4, x5, x6, x7, x8, x9]) := by
  rw [ldN_ldL]
  simp only [ldL, Nat.add_assoc, Nat.reduceAdd, Option.bind_assoc, Option.bind_some]
theorem ld_11 (b o : Nat) : aLdN C S 11 (.ptr b o) = (aLd1 C S (.ptr b o)).bind fun x0 => (aLd1 C S (.ptr b (o + 1))).bind fun x1 => (aLd1 C S (.ptr b (o + 2))).bind fun x2 => (aLd1 C S (.ptr b (o + 3))).bind fun x3 => (aLd1 C S (.ptr b (o + 4))).bind fun x4 => (aLd1 C S (.ptr b (o + 5))).bind fun x5 => (aLd1 C S (.ptr b (o + 6))).bind fun x6 => (aLd1 C S (.ptr b (o + 7))).bind fun x7 => (aLd1 C S (.ptr b (o + 8))).bind fun x8 => (aLd1 C S (.ptr b (o + 9))).bind fun x9 => (aLd1 C S (.ptr b (o + 10))).bind fun x10 => some (.agg [x0, x1, x2, x3, x4, x5, x6, x7, x8, x9, x10]) := by
  rw [ldN_ldL]
  simp only [ldL, Nat.add_assoc, Nat.reduceAdd, Option.bind_assoc, Option.bind_some]
theorem ld_12 (b o : Nat) : aLdN C S 12 (.ptr b o) = (aLd1 C S (.ptr b o)).bind fun x0 => (aLd1 C S (.ptr b (o + 1))).bind fun x1 => (aLd1 C S (.ptr b (o + 2))).bind fun x2 => (aLd1 C S (.ptr b (o + 3))).bind fun x3 => (aLd1 C S (.ptr b (o + 4))).bind fun x4 => (aLd1 C S (.ptr b (o + 5))).bind fun x5 => (aLd1 C S (.ptr b (o + 6))).bind fun x6 => (aLd1 C S (.ptr b (o + 7))).bind fun x7 => (aLd1 C S (.ptr b (o + 8))).bind fun x8 => (aLd1 C S (.ptr b (o + 9))).bind fun x9 => (aLd1 C S (.ptr b (o + 10))).bind fun x10 => (aLd1 C S (.ptr b (o + 11))).bind fun x11 => some (.agg [x0, x1, x2, x3, x4, x5, x6, x7, x8, x9, x10, x11]) := by
  rw [ldN_ldL]
  simp only [ldL, Nat.add_assoc, Nat.reduceAdd, Option.bind_assoc, Option.bind_some]
theorem wr_1 (z0 a0 : AV) : writeN (Tr.ofList [z0] 0 .nil) 0 [a0] = Tr.ofList [a0] 0 .nil := by rfl
theorem wr_2 (z0 z1 a0 a1 : AV) : writeN (Tr.ofList [z0, z1] 0 .nil) 0 [a0, a1] = Tr.ofList [a0, a1] 0 .nil := by rfl
theorem wr_3 (z0 z1 z2 a0 a1 a2 : AV) : writeN (Tr.ofList [z0, z1, z2] 0 .nil) 0 [a0, a1, a2] = Tr.ofList [a0, a1, a2] 0 .nil := by rfl
theorem wr_4 (z0 z1 z2 z3 a0 a1 a2 a3 : AV) : writeN (Tr.ofList [z0, z1, z2, z3] 0 .nil) 0 [a0, a1, a2, a3] = Tr.ofList [a0, a1, a2, a3] 0 .nil := by rfl
theorem wr_5 (z0 z1 z2 z3 z4 a0 a1 a2 a3 a4 : AV) : writeN (Tr.ofList [z0, z1, z2, z3, z4] 0 .nil) 0 [a0, a1, a2, a3, a4] = Tr.ofList [a0, a1, a2, a3, a4] 0 .nil := by rfl
theorem wr_6 (z0 z1 z2 z3 z4 z5 a0 a1 a2 a3 a4 a5 : AV) : writeN (Tr.ofList [z0, z1, z2, z3, z4, z5] 0 .nil) 0 [a0, a1, a2, a3, a4, a5] = Tr.ofList [a0, a1, a2, a3, a4, a5] 0 .nil := by rfl
theorem wr_7 (z0 z1 z2 z3 z4 z5 z6 a0 a1 a2 a3 a4 a5 a6 : AV) : writeN (Tr.ofList [z0, z1, z2, z3, z4, z5, z6] 0 .nil) 0 [a0, a1, a2, a3, a4, a5, a6] = Tr.ofList [a0, a1, a2, a3, a4, a5, a6] 0 .nil := by rfl
theorem wr_8 (z0 z1 z2 z3 z4 z5 z6 z7 a0 a1 a2 a3 a4 a5 a6 a7 : AV) : writeN (Tr.ofList [z0, z1, z2, z3, z4, z5, z6, z7] 0 .nil) 0 [a0, a1, a2, a3, a4, a5, a6, a7] = Tr.ofList [a0, a1, a2, a3, a4, a5, a6, a7] 0 .nil := by rfl
theorem wr_9 (z0 z1 z2 z3 z4 z5 z6 z7 z8 a0 a1 a2 a3 a4 a5 a6 a7 a8 : AV) : writeN (Tr.ofList [z0, z1, z2, z3, z4, z5, z6, z7, z8] 0 .nil) 0 [a0, a1, a2, a3, a4, a5, a6, a7, a8] = Tr.ofList [a0, a1, a2, a3, a4, a5, a6, a7, a8] 0 .nil := by rfl
theorem wr_10 (z0 z1 z2 z3 z4 z5 z6 z7 z8 z9 a0 a1 a2 a3 a4 a5 a6 a7 a8 a9 : AV) : writeN (Tr.ofList [z0, z1, z2, z3, z4, z5, z6, z7, z8, z9] 0 .nil) 0 [a0, a1, a2, a3, a4, a5, a6, a7, a8, a9] = Tr.ofList [a0, a1, a2, a3, a4, a5, a6, a7, a8, a9] 0 .nil := by rfl
theorem wr_11 (z0 z1 z2 z3 z4 z5 z6 z7 z8 z9 z10 a0 a1 a2 a3 a4 a5 a6 a7 a8 a9 a10 : AV) : writeN (Tr.ofList [z0, z1, z2, z3, z4, z5, z6, z7, z8, z9, z10] 0 .nil) 0 [a0, a1, a2, a3, a4, a5, a6, a7, a8, a9, a10] = Tr.ofList [a0, a1, a2, a3, a4, a5, a6, a7, a8, a9, a10] 0 .nil := by rfl
theorem wr_12 (z0 z1 z2 z3 z4 z5 z6 z7 z8 z9 z10 z11 a0 a1 a2 a3 a4 a5 a6 a7 a8 a9 a10 a11 : AV) : writeN (Tr.ofList [z0, z1, z2, z3, z4, z5, z6, z7, z8, z9, z10, z11] 0 .nil) 0 [a0, a1, a2, a3, a4, a5, a6, a7, a8, a9, a10, a11] = Tr.ofList [a0, a1, a2, a3, a4, a5, a6, a7, a8, a9, a10, a11] 0 .nil := by rfl
theorem wget_same (c : Tr AV) (o : Nat) (v : AV) : (writeN c o [v]).get o = some v := by rw [writeN_get]; simp
theorem wget_ne {c : Tr AV} {o i : Nat} {v : AV} (h : i ≠ o) : (writeN c o [v]).get i = c.get i := by rw [writeN_get, if_neg (by simp; omega)]
theorem st_all {b o k n : Nat} {c : Tr AV} {v : AV} (h : hget C S b = some (.cells c n .own)) (hb : C.n0 ≤ b) (hk : v.cells.length = k) (h0 : 0 < k) (ho : o + k ≤ n) (h1 : ones v.cells = true) :
    stV C S k (.ptr b o) v = some (hset C S b (some (.cells (writeN c o v.cells) n .own))) := by
  subst hk
  have e2 : Nat.blt 0 v.cells.length = true := by simp [Nat.blt]; omega
  have e3 : Nat.beq v.cells.length v.cells.length = true := by simp
  have e1 : Nat.ble (o + v.cells.length) n = true := by simpa using ho
  have e4 : Nat.ble C.n0 b = true := by simpa using hb
  simp only [stV, aWrite, h, dyn, e4, e1, e2, e3, h1, Bool.and_self, cnd_true, forceTr_eq]
/-! ### Numbers -/
theorem natOf_cast (k : IntKind) (n : Nat) : natOf (.int k (n : Int)) = some n := rfl
theorem natOf_zero (k : IntKind) : natOf (.int k 0) = some 0 := rfl
theorem natOf_one (k : IntKind) : natOf (.int k 1) = some 1 := rfl
theorem natOf_lit (k : IntKind) (n : Nat) : natOf (.int k (no_index (OfNat.ofNat (n + 2) : Int))) = some (n + 2) := rfl
theorem natOf_nonneg {k : IntKind} {x : Int} (h : 0 ≤ x) : natOf (.int k x) = some x.toNat := by
  obtain ⟨n, rfl⟩ := Int.eq_ofNat_of_zero_le h
  rfl
theorem ib_lss (k : IntKind) (x y : Int) : aIBin .lss (.int k x) (.int k y) = some (.bool (decide (x < y))) := by
  cases k <;> simp [aIBin, isShift, kindEq, aInt, boolR_eq, intLt_eq] <;> (rw [Bool.eq_iff_iff]; simp)
theorem ib_gtr (k : IntKind) (x y : Int) : aIBin .gtr (.int k x) (.int k y) = some (.bool (decide (y < x))) := by
  cases k <;> simp [aIBin, isShift, kindEq, aInt, boolR_eq, intLt_eq] <;> (rw [Bool.eq_iff_iff]; simp)
theorem ib_leq (k : IntKind) (x y : Int) : aIBin .leq (.int k x) (.int k y) = some (.bool (decide (x ≤ y))) := by
  cases k <;> simp [aIBin, isShift, kindEq, aInt, boolR_eq, intLt_eq] <;> (rw [Bool.eq_iff_iff]; simp)
theorem ib_geq (k : IntKind) (x y : Int) : aIBin .geq (.int k x) (.int k y) = some (.bool (decide (y ≤ x))) := by
  cases k <;> simp [aIBin, isShift, kindEq, aInt, boolR_eq, intLt_eq] <;> (rw [Bool.eq_iff_iff]; simp)
theorem ib_eql (k : IntKind) (x y : Int) : aIBin .eql (.int k x) (.int k y) = some (.bool (decide (x = y))) := by
  cases k <;> simp [aIBin, isShift, kindEq, aInt, boolR_eq, intEq_eq]
theorem ib_neq (k : IntKind) (x y : Int) : aIBin .neq (.int k x) (.int k y) = some (.bool (decide (x ≠ y))) := by
  cases k <;> simp [aIBin, isShift, kindEq, aInt, boolR_eq, intEq_eq]
theorem wrap64 {n : Int} (h1 : -9223372036854775808 ≤ n) (h2 : n < 9223372036854775808) : wrapF .i64 n = n := by
  simp only [wrapF, cnd_ite, decide_eq_true_eq]
  split <;> omega
theorem ib_add {x y : Int} (h1 : -9223372036854775808 ≤ x + y) (h2 : x + y < 9223372036854775808) : aIBin .add (.int .i64 x) (.int .i64 y) = some (.int .i64 (x + y)) := by
  simp [aIBin, isShift, kindEq, aInt, intW, wrap64 h1 h2]
theorem ib_sub {x y : Int} (h1 : -9223372036854775808 ≤ x - y) (h2 : x - y < 9223372036854775808) : aIBin .sub (.int .i64 x) (.int .i64 y) = some (.int .i64 (x - y)) := by
  simp [aIBin, isShift, kindEq, aInt, intW, wrap64 h1 h2]
theorem ib_addU (x y : Int) : aIBin .add (.int .u64 x) (.int .u64 y) = some (.int .u64 ((x + y) % 18446744073709551616)) := by
  simp [aIBin, isShift, kindEq, aInt, intW, wrapF]
theorem ib_remU {x y : Int} (hy : y ≠ 0) : aIBin .rem (.int .u64 x) (.int .u64 y) = some (.int .u64 (x.tmod y)) := by
  simp [aIBin, isShift, kindEq, aInt, intR, intEq_eq, hy]
theorem ixSV_slice {sz b o len cap i : Nat} (k : IntKind) (h : i < len) : ixSV sz (.slice b o len cap) (.int k (i : Int)) = some (.ptr b (o + i * sz)) := by
  simp [ixSV, natOf_cast, xIxS, cnd_ite, Nat.blt, h]; omega
theorem ixSV_sliceU {sz b o len cap i : Nat} (k : IntKind) (h : i < len) : ixSV sz (.sliceU b o len cap) (.int k (i : Int)) = some (.ptr b (o + i * sz)) := by
  simp [ixSV, natOf_cast, xIxS, cnd_ite, Nat.blt, h]; omega
theorem xOff_ptr (d b o : Nat) : xOff d (.ptr b o) = some (.ptr b (o + d)) := rfl
theorem xExt_tuple (i : Nat) (l : List AV) : xExt i (.tuple l) = l[i]? := by simp [xExt]
theorem xNil_ptr (b o : Nat) : xNil (.ptr b o) = some (.ptr b o) := rfl
theorem notV (b : Bool) : aUn .not (.bool b) = some (.bool (!b)) := by simp [aUn, boolR_eq]

/-! ### Slices that grow, lists in memory -/
def IsRow (c : Tr AV) (l : List AV) : Prop := ∀ i, c.get i = l[i]?
theorem isRow_ofList (l : List AV) : IsRow (Tr.ofList l 0 .nil) l := fun i => ofList_get l i
theorem IsRow.app {c : Tr AV} {l : List AV} (h : IsRow c l) (m : List AV) : IsRow (writeN c l.length m) (l ++ m) := by
  intro i
  rw [writeN_get]
  by_cases h1 : l.length ≤ i ∧ i < l.length + m.length
  · rw [if_pos h1, List.getElem?_append_right h1.1]
  · rw [if_neg h1, h i]
    by_cases h2 : i < l.length
    · rw [List.getElem?_append_left h2]
    · rw [List.getElem?_eq_none (by omega), List.getElem?_eq_none (by simp; omega)]
/-- a slice that append made: its cells, its block, the next number -/
def Grown (C : Cfg) (S : Tr AObj) (sz : Nat) (s : AV) (l : List AV) : Prop :=
  (s = .nilslice ∧ l = []) ∨ ∃ b n c olds, s = .sliceU b 0 n sz ∧ l.length = n * sz ∧ C.n0 ≤ b ∧ hget C S b = some (.cells c (n * sz) (.grow olds)) ∧ IsRow c l
end
end
end Go.AE

/-! ## Slices that a call makes: grown, written, read -/
namespace Go.AE
noncomputable section
/-- a slice type's elements: of sz cells each -/
def elemOkB (C : Cfg) (st sz : Nat) : Bool := match C.P.underlying st with
  | some (.slice e) => (match C.P.info? e with | some i => Nat.beq i.size sz && (Nat.blt 0 sz && (Nat.ble i.bytes 65536 && zeroFits i)) | none => false)
  | _ => false
theorem elemOk_inv {C : Cfg} {st sz : Nat} (h : elemOkB C st sz = true) : ∃ e i, C.P.underlying st = some (.slice e) ∧ C.P.info? e = some i ∧ i.size = sz ∧ 0 < sz ∧ i.bytes ≤ 65536 ∧ zeroFits i = true := by
  unfold elemOkB at h
  split at h
  · rename_i e hu
    split at h
    · rename_i i hi
      simp only [Bool.and_eq_true] at h
      exact ⟨e, i, hu, hi, Nat.eq_of_beq_eq_true h.1, blt_lt h.2.1, ble_le h.2.2.1, h.2.2.2⟩
    · cases h
  · cases h
section
variable {C : Cfg} {S : Tr AObj} {nx : Nat}
theorem ble_of {a b : Nat} (h : a ≤ b) : Nat.ble a b = true := by simpa using h
theorem blt_of {a b : Nat} (h : a < b) : Nat.blt a b = true := by simp [Nat.blt]; omega
theorem append_nil1 {st sz k : Nat} {x : AV} {m : List AV} (he : elemOkB C st sz = true) (hx : srcCells C S sz x = some (k, m)) (hk : 0 < k) (hb : k ≤ 1048576) :
    aAppend C S nx st .nilslice x = some (.vals (.sliceU nx 0 k sz) (hset C S nx (some (.cells (Tr.ofList m 0 .nil) m.length (.grow [])))) (nx + 1)) := by
  obtain ⟨e, i, h1, h2, h3, h4, h5, h6⟩ := elemOk_inv he
  subst h3
  simp only [aAppend, h1, h2, hx, ble_of h5, blt_of h4, h6, Bool.and_self, cnd_true]
  rw [cnd_beq, if_neg (by omega)]
  simp [appendL, growAt, ble_of hb, newAt]
theorem append_grown1 {st sz k b n : Nat} {x : AV} {m : List AV} {c : Tr AV} {olds : List Nat} (he : elemOkB C st sz = true) (hx : srcCells C S sz x = some (k, m)) (hk : 0 < k) (hb : n + k ≤ 1048576) (h1m : ones m = true)
    (hn : C.n0 ≤ b) (ho : hget C S b = some (.cells c (n * sz) (.grow olds))) :
    aAppend C S nx st (.sliceU b 0 n sz) x = some (.vals (.sliceU nx 0 (n + k) sz) (hset C (hset C S b (some (.cells c (n * sz) .stale))) nx (some (.cells (writeN c (n * sz) m) (n * sz + m.length) (.grow (b :: olds))))) (nx + 1)) := by
  obtain ⟨e, i, h1, h2, h3, h4, h5, h6⟩ := elemOk_inv he
  subst h3
  simp only [aAppend, h1, h2, hx, ble_of h5, blt_of h4, h6, Bool.and_self, cnd_true]
  rw [cnd_beq, if_neg (by omega)]
  have hlt : ¬ (0 + (n + k) * i.size ≤ n * i.size) := by
    have : 0 < k * i.size := Nat.mul_pos hk h4
    rw [Nat.add_mul]; omega
  have hble : Nat.ble (0 + (n + k) * i.size) (n * i.size) = false := by
    cases hq : Nat.ble (0 + (n + k) * i.size) (n * i.size) with
    | false => rfl
    | true => exact absurd (ble_le hq) hlt
  simp only [appendL, appendU, ho, dyn, ble_of hn, ble_of hb, h1m, hble]
  simp [cnd_ite, newAt]
theorem killAll_get : ∀ (l : List Nat) (S : Tr AObj) (y : Nat), (∀ x ∈ l, C.n0 ≤ x) → y ∉ l → hget C (killAll C l S) y = hget C S y := by
  intro l
  induction l with
  | nil => intro S y _ _; rfl
  | cons a l ih =>
    intro S y hl hy
    simp only [List.mem_cons, not_or] at hy
    simp only [killAll]
    rw [ih _ _ (fun x hx => hl x (List.mem_cons_of_mem _ hx)) hy.2, hget_old (hl a (List.mem_cons_self ..)) hy.1]
/-- a slice that append made: its cells, its blocks (the one that it stands in, then the elder ones) -/
def Sl (C : Cfg) (S : Tr AObj) (s : AV) (sz : Nat) (l : List AV) (bl : List Nat) : Prop :=
  (s = .nilslice ∧ l = [] ∧ bl = []) ∨ ∃ b olds n c, s = .sliceU b 0 n sz ∧ l.length = n * sz ∧ bl = b :: olds ∧ (∀ x ∈ bl, C.n0 ≤ x) ∧ b ∉ olds ∧ hget C S b = some (.cells c (n * sz) (.grow olds)) ∧ IsRow c l
theorem Sl.keep {S' : Tr AObj} {s : AV} {sz : Nat} {l : List AV} {bl : List Nat} (h : Sl C S s sz l bl) (hk : ∀ y ∈ bl, hget C S' y = hget C S y) : Sl C S' s sz l bl := by
  rcases h with h | ⟨b, olds, n, c, h1, h2, h3, h4, h5, h6, h7⟩
  · exact .inl h
  · exact .inr ⟨b, olds, n, c, h1, h2, h3, h4, h5, by rw [hk b (by rw [h3]; exact List.mem_cons_self ..)]; exact h6, h7⟩
theorem Sl.append {st sz k : Nat} {s x : AV} {l m : List AV} {bl : List Nat} (h : Sl C S s sz l bl) (he : elemOkB C st sz = true) (hx : srcCells C S sz x = some (k, m)) (hm : m.length = k * sz) (hk : 0 < k) (h1 : ones m = true)
    (hb : l.length + m.length ≤ 1048576) (hn : C.n0 ≤ nx) (hlt : ∀ y ∈ bl, y < nx) :
    ∃ s' S', aAppend C S nx st s x = some (.vals s' S' (nx + 1)) ∧ Sl C S' s' sz (l ++ m) (nx :: bl) ∧ ∀ y, y ≠ nx → y ∉ bl → hget C S' y = hget C S y := by
  obtain ⟨e, i, _, _, q3, q4, _, _⟩ := elemOk_inv he
  have hks : k ≤ k * sz := Nat.le_mul_of_pos_right k q4
  rcases h with ⟨rfl, rfl, rfl⟩ | ⟨b, olds, n, c, rfl, h2, rfl, h4, h5, h6, h7⟩
  · refine ⟨_, _, append_nil1 he hx hk (by simp at hb; omega), .inr ⟨nx, [], k, _, rfl, by simpa using hm, rfl, by simpa using hn, by simp, by rw [hget_new hn, hm], ?_⟩, fun y hy _ => hget_old hn hy⟩
    simpa using isRow_ofList m
  · have hns : n ≤ n * sz := Nat.le_mul_of_pos_right n q4
    have hbn : b < nx := hlt b (List.mem_cons_self ..)
    refine ⟨_, _, append_grown1 he hx hk (by omega) h1 (h4 b (List.mem_cons_self ..)) h6, .inr ⟨nx, b :: olds, n + k, writeN c (n * sz) m, rfl, by rw [List.length_append, h2, hm, Nat.add_mul], rfl, ?_, ?_, ?_, ?_⟩, fun y hy hy2 => ?_⟩
    · intro y hy
      rcases List.mem_cons.1 hy with rfl | hy
      · exact hn
      · exact h4 y hy
    · intro hc
      have := hlt nx hc
      omega
    · rw [hget_new hn, hm, Nat.add_mul]
    · rw [← h2]; exact h7.app m
    · simp only [List.mem_cons, not_or] at hy2
      rw [hget_old hn hy, hget_old (h4 b (List.mem_cons_self ..)) hy2.1]
theorem Sl.len {sz : Nat} {s : AV} {l : List AV} {bl : List Nat} {t e : Nat} (h : Sl C S s sz l bl) (hsz : 0 < sz) (hu : C.P.underlying t = some (.slice e)) (ats : List Nat) : builtV C S .len (t :: ats) [s] = some (.int .i64 ((l.length / sz : Nat) : Int)) := by
  rcases h with ⟨rfl, rfl, rfl⟩ | ⟨b, olds, n, c, rfl, h2, rfl, h4, h5, h6, h7⟩
  · simp [builtV, aLen, hu]
  · simp [builtV, aLen, hu, h2, Nat.mul_div_cancel _ hsz, intR]
theorem Sl.at {sz : Nat} {s : AV} {l : List AV} {bl : List Nat} {i : Nat} (h : Sl C S s sz l bl) (hi : i * sz + sz ≤ l.length) (hsz : 0 < sz) (k : IntKind) :
    ∃ b, bl.head? = some b ∧ ixSV sz s (.int k (i : Int)) = some (.ptr b (i * sz)) ∧ ∀ j, aLd1 C S (.ptr b (i * sz + j)) = l[i * sz + j]? := by
  rcases h with ⟨rfl, rfl, rfl⟩ | ⟨b, olds, n, c, rfl, h2, rfl, h4, h5, h6, h7⟩
  · simp at hi; omega
  · have hin : i < n := by
      rw [h2] at hi
      exact Nat.lt_of_mul_lt_mul_right (a := sz) (by omega)
    refine ⟨b, rfl, by rw [ixSV_sliceU k hin, Nat.zero_add], fun j => ?_⟩
    rw [ld1_eq, h6]
    exact h7 _
/-- cells put over others -/
def putL (l : List AV) (o : Nat) (vs : List AV) : List AV := l.take o ++ (vs ++ l.drop (o + vs.length))
theorem putL_len {l vs : List AV} {o : Nat} (h : o + vs.length ≤ l.length) : (putL l o vs).length = l.length := by
  simp [putL]; omega
theorem putL_get {l vs : List AV} {o : Nat} (h : o + vs.length ≤ l.length) (i : Nat) : (putL l o vs)[i]? = if o ≤ i ∧ i < o + vs.length then vs[i - o]? else l[i]? := by
  unfold putL
  have hto : (l.take o).length = o := by simp; omega
  by_cases h1 : i < o
  · rw [List.getElem?_append_left (by omega), if_neg (by omega), List.getElem?_take, if_pos h1]
  · rw [List.getElem?_append_right (by omega), hto]
    by_cases h2 : i < o + vs.length
    · rw [List.getElem?_append_left (by omega), if_pos ⟨by omega, h2⟩]
    · rw [List.getElem?_append_right (by omega), if_neg (by omega), List.getElem?_drop]
      congr 1
      omega
theorem IsRow.put {c : Tr AV} {l : List AV} (h : IsRow c l) {o : Nat} {vs : List AV} (hl : o + vs.length ≤ l.length) : IsRow (writeN c o vs) (putL l o vs) := by
  intro i
  rw [writeN_get, putL_get hl, h i]
/-- a store into a slice that append made -/
theorem Sl.put {sz : Nat} {s : AV} {l vs : List AV} {bl : List Nat} {b o : Nat} {v : AV} (h : Sl C S s sz l bl) (hb : bl.head? = some b) (hv : v.cells = vs) (h0 : 0 < vs.length) (h1 : ones vs = true) (ho : o + vs.length ≤ l.length) :
    ∃ S', stV C S vs.length (.ptr b o) v = some S' ∧ Sl C S' s sz (putL l o vs) [b] ∧ ∀ y, y ∉ bl → hget C S' y = hget C S y := by
  rcases h with ⟨rfl, rfl, rfl⟩ | ⟨b', olds, n, c, rfl, h2, rfl, h4, h5, h6, h7⟩
  · simp at hb
  · simp only [List.head?_cons, Option.some.injEq] at hb
    subst hb
    have hb0 := h4 b' (List.mem_cons_self ..)
    have hol : ∀ x ∈ olds, C.n0 ≤ x := fun x hx => h4 x (List.mem_cons_of_mem _ hx)
    refine ⟨hset C (killAll C olds S) b' (some (.cells (writeN c o vs) (n * sz) (.grow []))), ?_, .inr ⟨b', [], n, writeN c o vs, rfl, by rw [putL_len ho]; exact h2, rfl, by simpa using hb0, by simp, hget_new hb0, h7.put ho⟩, fun y hy => ?_⟩
    · have e1 : Nat.ble (o + vs.length) (n * sz) = true := ble_of (by omega)
      subst hv
      have e2 : Nat.blt 0 v.cells.length = true := blt_of h0
      have e3 : Nat.beq v.cells.length v.cells.length = true := by simp
      simp only [stV, aWrite, h6, dyn, ble_of hb0, e1, e2, e3, h1, Bool.and_self, cnd_true, forceTr_eq]
    · simp only [List.mem_cons, not_or] at hy
      rw [hget_old hb0 hy.1, killAll_get _ _ _ hol hy.2]
/-- what a slice made of parts gives to append -/
theorem src_of {sz k b n : Nat} {l : List AV} {c : Tr AV} {st : St} (h : hget C S b = some (.cells c n st)) (hc : IsRow c l) (hl : l.length = k * sz) (cap : Nat) : srcCells C S sz (.slice b 0 k cap) = some (k, l) := by
  have hg : ∀ (m o : Nat), o + m ≤ l.length → c.getN o m = some ((l.drop o).take m) := by
    intro m
    induction m with
    | zero => intro o _; simp [Tr.getN]
    | succ m ih =>
      intro o ho
      have h1 : c.get o = some l[o] := by rw [hc o, List.getElem?_eq_getElem (by omega)]
      simp only [Tr.getN, h1, ih (o + 1) (by omega)]
      rw [List.drop_eq_getElem_cons (by omega : o < l.length), List.take_succ_cons]
  simp only [srcCells, cellsAt, cellsOf, h]
  rw [hg (k * sz) 0 (by omega)]
  simp [← hl]
/-- a loop: what holds at its head, and a measure -/
theorem loopP_go {b : HK → HK} {T : TF} {S : Tr AObj} {nx : Nat} (I : Nat → HK) (m : Nat) (h0 : I m T S nx) (h : ∀ m T S nx, I m T S nx → b (fun T S nx => ∃ m', m' < m ∧ I m' T S nx) T S nx) : loopP b T S nx := ⟨⟨I, ⟨m, h0⟩, h⟩⟩
/-- a slice of structs, as it is read: rows of sz cells -/
structure RdA (C : Cfg) (S : Tr AObj) (lim b : Nat) (sl : AV) (t sz : Nat) (rows : List (List AV)) : Prop where
  hb : rows ≠ [] → b < lim
  many : rows.length ≤ 1048576
  len : ∀ S', builtV C S' .len [t] [sl] = some (.int .i64 (rows.length : Int))
  ix : ∀ (i : Nat), i < rows.length → ixSV sz sl (.int .i64 (i : Int)) = some (.ptr b (i * sz))
  cell : ∀ (i : Nat) r (j : Nat) v, rows[i]? = some r → r[j]? = some v → aLd1 C S (.ptr b (i * sz + j)) = some v
theorem RdA.ext {S' : Tr AObj} {lim b nx' t sz : Nat} {sl : AV} {rows : List (List AV)} (h : RdA C S lim b sl t sz rows) (k : Exts C S lim S' nx') : RdA C S' lim b sl t sz rows :=
  ⟨h.hb, h.many, h.len, h.ix, fun i r j v hi hj => by rw [k.ld1 _ _ (h.hb (fun e => by rw [e] at hi; cases hi))]; exact h.cell i r j v hi hj⟩
/-- the first of n places that a test takes, or -1 -/
def FirstIs (pr : Nat → Bool) (n : Nat) (r : Int) : Prop := (r = -1 ∧ ∀ i, i < n → pr i = false) ∨ ∃ k : Nat, k < n ∧ r = (k : Int) ∧ pr k = true ∧ ∀ j, j < k → pr j = false
theorem RdA.lift {lim lim' b t sz : Nat} {sl : AV} {rows : List (List AV)} (h : RdA C S lim b sl t sz rows) (k : lim ≤ lim') : RdA C S lim' b sl t sz rows :=
  ⟨fun e => Nat.lt_of_lt_of_le (h.hb e) k, h.many, h.len, h.ix, h.cell⟩
theorem Exts.app {S1 S2 : Tr AObj} {n1 : Nat} {bl : List Nat} (h : Exts C S nx S1 n1) (k : ∀ y, y ≠ n1 → y ∉ bl → hget C S2 y = hget C S1 y) (hbl : ∀ y ∈ bl, nx ≤ y) : Exts C S nx S2 (n1 + 1) :=
  ⟨by have := h.le; omega, fun b hb => by
    have := h.le
    rw [k b (by omega) (fun e => by have := hbl b e; omega)]; exact h.keep b hb⟩
theorem Exts.hset {S1 : Tr AObj} {n1 b : Nat} {ob : Option AObj} (h : Exts C S nx S1 n1) (hn : C.n0 ≤ b) (hb : nx ≤ b) {n2 : Nat} (h2 : nx ≤ n2) : Exts C S nx (Go.AE.hset C S1 b ob) n2 :=
  ⟨h2, fun y hy => by rw [hget_old hn (by omega)]; exact h.keep y hy⟩
/-- how rows that append made are read -/
theorem Sl.rows {t e sz : Nat} {s : AV} {rows : List (List AV)} {bl : List Nat} (h : Sl C S s sz rows.flatten bl) (hsz : 0 < sz) (hr : ∀ r ∈ rows, r.length = sz) (hu : C.P.underlying t = some (.slice e)) (hm : rows.length ≤ 1048576) {lim : Nat} (hl : ∀ y ∈ bl, y < lim) :
    ∃ b, (rows ≠ [] → bl.head? = some b) ∧ RdA C S lim b s t sz rows := by
  have hlen : ∀ rows : List (List AV), (∀ r ∈ rows, r.length = sz) → rows.flatten.length = rows.length * sz := by
    intro rows
    induction rows with
    | nil => intro _; simp
    | cons a l ih =>
      intro h
      rw [List.flatten_cons, List.length_append, h a (List.mem_cons_self ..), ih (fun r hr => h r (List.mem_cons_of_mem _ hr)), List.length_cons, Nat.add_mul]
      omega
  have hget : ∀ (rows : List (List AV)), (∀ r ∈ rows, r.length = sz) → ∀ (i : Nat) r (j : Nat) v, rows[i]? = some r → r[j]? = some v → rows.flatten[i * sz + j]? = some v := by
    intro rows
    induction rows with
    | nil => intro _ i r j v hi; simp at hi
    | cons a l ih =>
      intro hr i r j v hi hj
      have ha := hr a (List.mem_cons_self ..)
      have hjl : j < r.length := (List.getElem?_eq_some_iff.1 hj).1
      cases i with
      | zero =>
        simp at hi; subst hi
        rw [List.flatten_cons, Nat.zero_mul, Nat.zero_add, List.getElem?_append_left (by omega)]; exact hj
      | succ i =>
        simp at hi
        rw [List.flatten_cons, List.getElem?_append_right (by rw [ha, Nat.add_mul]; omega), ha]
        have : (i + 1) * sz + j - sz = i * sz + j := by rw [Nat.add_mul]; omega
        rw [this]
        exact ih (fun r hr' => hr r (List.mem_cons_of_mem _ hr')) i r j v hi hj
  have hL := hlen rows hr
  rcases h with ⟨h1, h2, h3⟩ | ⟨b, olds, n, c, h1, h2, h3, h4, h5, h6, h7⟩
  · have hnil : rows.length = 0 := by
      rw [h2, List.length_nil] at hL
      rcases Nat.mul_eq_zero.1 hL.symm with h | h
      · exact h
      · omega
    have hnil : rows = [] := List.length_eq_zero_iff.1 hnil
    subst hnil h1
    exact ⟨0, fun e => absurd rfl e, fun e => absurd rfl e, by simp, fun S' => by simp [builtV, aLen, hu], fun i hi => by simp at hi, fun i r j v hi => by simp at hi⟩
  · have hn : n = rows.length := Nat.eq_of_mul_eq_mul_right hsz (by rw [← h2, hL])
    subst hn h1
    refine ⟨b, fun _ => by rw [h3]; rfl, fun _ => hl b (by rw [h3]; exact List.mem_cons_self ..), hm, fun S' => by simp [builtV, aLen, hu, intR], fun i hi => by rw [ixSV_sliceU _ hi, Nat.zero_add], fun i r j v hi hj => ?_⟩
    rw [ld1_eq, h6]
    exact (h7 _).trans (hget rows hr i r j v hi hj)
theorem getN_row {c : Tr AV} {l : List AV} (hc : IsRow c l) : ∀ (m o : Nat), o + m ≤ l.length → c.getN o m = some ((l.drop o).take m) := by
  intro m
  induction m with
  | zero => intro o _; simp [Tr.getN]
  | succ m ih =>
    intro o ho
    have h1 : c.get o = some l[o] := by rw [hc o, List.getElem?_eq_getElem (by omega)]
    simp only [Tr.getN, h1, ih (o + 1) (by omega)]
    rw [List.drop_eq_getElem_cons (by omega : o < l.length), List.take_succ_cons]
theorem Sl.src {sz : Nat} {s : AV} {l : List AV} {bl : List Nat} (h : Sl C S s sz l bl) : ∃ n, l.length = n * sz ∧ srcCells C S sz s = some (n, l) := by
  rcases h with ⟨rfl, rfl, rfl⟩ | ⟨b, olds, n, c, rfl, h2, rfl, h4, h5, h6, h7⟩
  · exact ⟨0, by simp, rfl⟩
  · refine ⟨n, h2, ?_⟩
    simp only [srcCells, cellsAt, cellsOf, h6]
    rw [getN_row h7 _ _ (by omega)]
    simp [← h2]
theorem flat_len {sz : Nat} : ∀ {rows : List (List AV)}, (∀ r ∈ rows, r.length = sz) → rows.flatten.length = rows.length * sz := by
  intro rows
  induction rows with
  | nil => intro _; simp
  | cons a l ih =>
    intro h
    rw [List.flatten_cons, List.length_append, h a (List.mem_cons_self ..), ih (fun r hr => h r (List.mem_cons_of_mem _ hr)), List.length_cons, Nat.add_mul]
    omega
/-- a slice that append made is appended to a slice of one row -/
theorem append_one_step {st sz e b : Nat} {r0 : List AV} {rows : List (List AV)} {x : AV} {bl : List Nat} {κ : VK} (he : elemOkB C st sz = true) (hu : C.P.underlying st = some (.slice e)) (hb : hget C S b = some (.cells (Tr.ofList r0 0 .nil) sz .own)) (hr0 : r0.length = sz)
    (hx : Sl C S x sz rows.flatten bl) (hr : ∀ r ∈ rows, r.length = sz) (hm : rows.length ≤ 1000) (hn : C.n0 ≤ nx) (hbn : b < nx)
    (k : ∀ s S' n' b', nx ≤ n' → Exts C S nx S' n' → (b' = b ∨ b' = nx) → b' < n' → RdA C S' n' b' s st sz (r0 :: rows) → κ s S' n') : resP (aAppend C S nx st (.slice b 0 1 1) x) S nx κ := by
  obtain ⟨e', i, g1, g2, g3, g4, g5, g6⟩ := elemOk_inv he
  subst g3
  obtain ⟨n, hxl, hsrc⟩ := hx.src
  have hL := flat_len hr
  have hnr : n = rows.length := Nat.eq_of_mul_eq_mul_right g4 (by rw [← hxl, hL])
  subst hnr
  have e1 : aAppend C S nx st (.slice b 0 1 1) x = cnd (Nat.beq rows.length 0) (appendNone C S i.size (.slice b 0 1 1)) (appendL C S nx i.size rows.length rows.flatten (.slice b 0 1 1)) := by
    simp only [aAppend, g1, g2, hsrc, ble_of g5, blt_of g4, g6, Bool.and_self, cnd_true]
  rw [e1, cnd_beq]
  by_cases h0 : rows.length = 0
  · rw [if_pos h0]
    have hnil : rows = [] := List.length_eq_zero_iff.1 h0
    subst hnil
    refine resP_val (v := .slice b 0 1 1) (by simp [appendNone, cnd_ite]) (k _ S nx b (Nat.le_refl _) (Exts.refl _ _) (.inl rfl) hbn ⟨fun _ => hbn, by simp, fun S' => by simp [builtV, aLen, hu, intR], fun j hj => ?_, fun j r q v hj hq => ?_⟩)
    · have : j = 0 := by simp at hj; omega
      subst this
      rw [ixSV_slice _ (by decide), Nat.zero_add]
    · have : j = 0 := by have := (List.getElem?_eq_some_iff.1 hj).1; simp at this; omega
      subst this
      simp at hj; subst hj
      rw [ld1_eq, hb, Nat.zero_mul, Nat.zero_add]
      exact (isRow_ofList r0 q).trans hq
  · rw [if_neg h0]
    have hcells : cellsAt C S b 0 (1 * i.size) = some r0 := by
      simp only [cellsAt, cellsOf, hb]
      rw [getN_row (isRow_ofList r0) _ _ (by omega)]
      simp [← hr0]
    have hble : Nat.ble (1 + rows.length) 1 = false := by
      cases hq : Nat.ble (1 + rows.length) 1 with
      | false => rfl
      | true => have := ble_le hq; omega
    have hble2 : Nat.ble (1 + rows.length) 1048576 = true := ble_of (by omega)
    have hres : appendL C S nx i.size rows.length rows.flatten (.slice b 0 1 1) = some (.vals (.sliceU nx 0 (1 + rows.length) i.size) (hset C S nx (some (.cells (Tr.ofList (r0 ++ rows.flatten) 0 .nil) (r0 ++ rows.flatten).length (.grow [])))) (nx + 1)) := by
      simp only [appendL, hble, cnd_false, hcells, growAt, hble2, cnd_true, newAt, forceN_eq, forceTr_eq]
    refine resP_vals hres ?_
    have hr' : ∀ r ∈ r0 :: rows, r.length = i.size := by
      intro r hq
      rcases List.mem_cons.1 hq with rfl | hq
      · exact hr0
      · exact hr r hq
    have hfl := flat_len hr'
    have hSl : Sl C (hset C S nx (some (.cells (Tr.ofList (r0 ++ rows.flatten) 0 .nil) (r0 ++ rows.flatten).length (.grow [])))) (.sliceU nx 0 (1 + rows.length) i.size) i.size (r0 :: rows).flatten [nx] := by
      refine .inr ⟨nx, [], 1 + rows.length, Tr.ofList (r0 ++ rows.flatten) 0 .nil, rfl, by rw [hfl, List.length_cons, Nat.add_comm 1], rfl, by simpa using hn, by simp, ?_, ?_⟩
      · rw [hget_new hn]
        rw [List.flatten_cons, List.length_cons] at hfl
        rw [hfl, Nat.add_comm 1]
      · exact isRow_ofList _
    obtain ⟨b', hb', hrd⟩ := hSl.rows g4 hr' hu (by simp; omega) (lim := nx + 1) (by simp)
    have : b' = nx := by have := hb' (by simp); simp at this; exact this.symm
    exact k _ _ _ b' (by omega) (Exts.fresh hn _) (.inr this) (by omega) hrd
end
end
end Go.AE
