/- The law EnableOrder returns true in every start and leaves its arguments as they were; no condition. -/
import Derived.Test.YtkmmngiodbbjcaaOrdLaw
import Derived.Test.YtkmmngiodbbjcaaRows
import Derived.ProofKit
import Derived.Carry
import Derived.Deep.Slices
import Derived.Lib.SmallJoins
/-! ## The start: two arguments that are read -/
namespace Go.AE
noncomputable section
open Go.RowKit (Below)
/-- cells that are the same whatever the numbers stand for -/
def PlainCells (l : List AV) : Prop := ∀ v ∈ l, (∀ φ ψ, conc φ v = conc ψ v) ∧ ∀ D, good D v
/-- a slice that a call is given: its cells -/
def Arg (w : World) (v : Value) (sz : Nat) (l : List AV) : Prop :=
  (v = .slice none 0 0 ∧ l = []) ∨ ∃ blk off len cap arr ty fr, v = .slice (some ⟨blk, off, none⟩) len cap ∧ len ≤ cap ∧ l.length = len * sz ∧ PlainCells l ∧
    (0 < l.length → w.heap[blk]? = some (.cells arr ty fr) ∧ off + l.length ≤ arr.size ∧ ∀ i x, l[i]? = some x → arr[off + i]? = some (conc (fun _ => default) x))
/-- .. as the evaluator has it -/
def ArgAt (C : Cfg) (a : AV) (b sz : Nat) (l : List AV) : Prop :=
  (a = .nilslice ∧ l = []) ∨ ∃ len cap, a = .slice b 0 len cap ∧ len ≤ cap ∧ l.length = len * sz ∧ (0 < l.length → hget C .nil b = some (.cells (Tr.ofList l 0 .nil) l.length .stale))
def objOf (l : List AV) (G : Tr AObj) (b : Nat) : Tr AObj := if 0 < l.length then G.set b (some (.cells (Tr.ofList l 0 .nil) l.length .stale)) else G
theorem Arg.pl {w : World} {v : Value} {sz : Nat} {l : List AV} (h : Arg w v sz l) (b : Nat) : ∃ (a : AV) (pl : Pl), (∀ φ : Phi, φ b = pl → conc φ a = v) ∧ (∀ D : Nat → Prop, D b → good D a) ∧
    ((a = .nilslice ∧ l = []) ∨ ∃ len cap, a = .slice b 0 len cap ∧ len ≤ cap ∧ l.length = len * sz) ∧ (0 < l.length → ∀ C φ D, ORel C φ D (.cells (Tr.ofList l 0 .nil) l.length .stale) pl w) := by
  rcases h with ⟨rfl, rfl⟩ | ⟨blk, off, len, cap, arr, ty, fr, rfl, h1, h2, h3, h4⟩
  · exact ⟨.nilslice, default, fun _ _ => rfl, fun _ _ => trivial, .inl ⟨rfl, rfl⟩, fun h => by simp at h⟩
  · refine ⟨.slice b 0 len cap, ⟨blk, off, l.length⟩, fun φ hφ => by simp [conc, hφ], fun D d => d, .inr ⟨len, cap, rfl, h1, h2⟩, fun h C φ D => ?_⟩
    obtain ⟨k1, k2, k3⟩ := h4 h
    obtain ⟨lo, hi⟩ := fr
    refine ⟨arr, ty, lo, hi, k1, ⟨trivial, Nat.le_refl _, k2⟩, k2, fun i x hx => ?_⟩
    rw [ofList_get] at hx
    have hm := h3 x (List.mem_of_getElem? hx)
    exact ⟨by rw [hm.1 φ (fun _ => default)]; exact k3 i x hx, hm.2 D⟩
theorem args_env {P : Program} {w : World} {v0 v1 : Value} {s0 s1 : Nat} {l0 l1 : List AV} (h0 : Arg w v0 s0 l0) (h1 : Arg w v1 s1 l1) (orc : Nat → List AV → Option AV) :
    ∃ G φ D a0 a1, HRel ⟨P, G, 2, orc, 0⟩ φ D .nil 2 w.heap.size w ∧ GInv ⟨P, G, 2, orc, 0⟩ φ D ∧ goods D [a0, a1] ∧ concs φ [a0, a1] = [v0, v1] ∧ ArgAt ⟨P, G, 2, orc, 0⟩ a0 0 s0 l0 ∧ ArgAt ⟨P, G, 2, orc, 0⟩ a1 1 s1 l1 := by
  obtain ⟨a0, p0, c0, g0, t0, o0⟩ := h0.pl 0
  obtain ⟨a1, p1, c1, g1, t1, o1⟩ := h1.pl 1
  have hG : ∀ b, hget ⟨P, objOf l1 (objOf l0 .nil 0) 1, 2, orc, 0⟩ .nil b = if b = 0 ∧ 0 < l0.length then some (.cells (Tr.ofList l0 0 .nil) l0.length .stale) else if b = 1 ∧ 0 < l1.length then some (.cells (Tr.ofList l1 0 .nil) l1.length .stale) else none := by
    intro b
    unfold hget objOf
    rw [cnd_ite]
    rcases b with _ | _ | b
    · by_cases q0 : 0 < l0.length <;> by_cases q1 : 0 < l1.length <;> simp [q0, q1, Tr.get_set]
    · by_cases q0 : 0 < l0.length <;> by_cases q1 : 0 < l1.length <;> simp [q0, q1, Tr.get_set]
    · have : Nat.blt (b + 1 + 1) 2 = false := by
        cases hq : Nat.blt (b + 1 + 1) 2 with
        | false => rfl
        | true => exact absurd (blt_lt hq) (by omega)
      by_cases q0 : 0 < l0.length <;> by_cases q1 : 0 < l1.length <;> simp [this, q0, q1, Tr.get_set]
  refine ⟨objOf l1 (objOf l0 .nil 0) 1, fun b => if b = 0 then p0 else p1, fun b => b < 2, a0, a1, ⟨Nat.le_refl _, fun b h => h, fun b o ho => ?_, fun b o ho _ => ?_, fun b b' o o' _ _ d _ _ hb => ?_, fun b o hb _ d => ?_, fun b o ho _ => ?_⟩, fun g hg => absurd hg (Nat.not_lt_zero _), ⟨g0 _ (by decide), g1 _ (by decide), trivial⟩, ?_, ?_, ?_⟩
  · rw [hG] at ho
    split at ho
    · rename_i h; omega
    · split at ho
      · rename_i h; omega
      · cases ho
  · rw [hG] at ho
    split at ho
    · rename_i h; cases ho; rw [h.1]; exact o0 h.2 _ _ _
    · split at ho
      · rename_i h; cases ho; rw [h.1]; exact o1 h.2 _ _ _
      · cases ho
  · exact absurd d (Nat.not_lt.2 hb)
  · exact absurd d (Nat.not_lt.2 hb)
  · have hl : ∀ (l : List AV), OldsIn ⟨P, objOf l1 (objOf l0 .nil 0) 1, 2, orc, 0⟩ (fun b => b < 2) (.cells (Tr.ofList l 0 .nil) l.length .stale) := by
      intro l
      refine ⟨fun c n l hl => (by cases hl), fun c n st hc i v hv => ?_⟩
      cases hc
      rw [ofList_get] at hv
      exact (List.getElem?_eq_some_iff.1 hv).1
    rw [hG] at ho
    split at ho
    · cases ho; exact hl _
    · split at ho
      · cases ho; exact hl _
      · cases ho
  · simp only [concs]
    rw [c0 _ rfl, c1 _ rfl]
  · rcases t0 with h | ⟨len, cap, q1, q2, q3⟩
    · exact .inl h
    · exact .inr ⟨len, cap, q1, q2, q3, fun h => by rw [hG, if_pos ⟨rfl, h⟩]⟩
  · rcases t1 with h | ⟨len, cap, q1, q2, q3⟩
    · exact .inl h
    · exact .inr ⟨len, cap, q1, q2, q3, fun h => by rw [hG, if_neg (by omega), if_pos ⟨rfl, h⟩]⟩
theorem flat_get (sz : Nat) : ∀ (rows : List (List AV)), (∀ r ∈ rows, r.length = sz) → ∀ (i : Nat) r (j : Nat) v, rows[i]? = some r → r[j]? = some v → rows.flatten[i * sz + j]? = some v := by
  intro rows
  induction rows with
  | nil => intro _ i r j v hi; simp at hi
  | cons a l ih =>
    intro hr i r j v hi hj
    have ha := hr a (List.mem_cons_self ..)
    have hjl : j < r.length := (List.getElem?_eq_some_iff.1 hj).1
    cases i with
    | zero =>
      simp at hi; subst hi
      rw [List.flatten_cons, Nat.zero_mul, Nat.zero_add, List.getElem?_append_left (by omega)]; exact hj
    | succ i =>
      simp at hi
      rw [List.flatten_cons, List.getElem?_append_right (by rw [ha, Nat.add_mul]; omega), ha]
      have : (i + 1) * sz + j - sz = i * sz + j := by rw [Nat.add_mul]; omega
      rw [this]
      exact ih (fun r hr' => hr r (List.mem_cons_of_mem _ hr')) i r j v hi hj
end
end Go.AE
namespace Go.Proofs.Ytkmmngiodbbjcaa
open Go.AE
noncomputable section
variable {G : Tr AObj}
theorem argAt_rdW {a : AV} {l : List A4} (h : ArgAt (cf G 2) a 0 4 (l.map arow).flatten) : RdW (cf G 2) .nil 2 0 0 a l := by
  have hrow : ∀ r ∈ l.map arow, r.length = 4 := fun r hr => by obtain ⟨_, _, rfl⟩ := List.mem_map.1 hr; rfl
  have hlen : (l.map arow).flatten.length = l.length * 4 := by rw [Go.Proofs.Ytkmmngiodbbjcaa.flat_len 4 _ hrow, List.length_map]
  rcases h with ⟨rfl, h⟩ | ⟨len, cap, rfl, h1, h2, h3⟩
  · have hl : l = [] := by
      rw [h] at hlen
      exact List.eq_nil_of_length_eq_zero (by simp at hlen; omega)
    subst hl
    exact ⟨fun _ => by decide, fun S' => by simp [builtV, aLen, und22], fun i hi => by simp at hi, fun i a j v hi => by simp at hi⟩
  · rw [hlen] at h2 h3
    have hll : len = l.length := by omega
    subst hll
    refine ⟨fun _ => by decide, fun S' => by simp [builtV, aLen, und22, intR], fun i hi => by rw [ixSV_slice _ hi], fun i a j v hi hj => ?_⟩
    have hil := (List.getElem?_eq_some_iff.1 hi).1
    rw [Nat.zero_add]
    refine ld1_of (h3 (by omega)) ?_
    rw [ofList_get]
    exact flat_get 4 _ hrow i _ j v (by rw [List.getElem?_map, hi]; rfl) hj
theorem argAt_rdV {a : AV} {xs : List Int} (h : ArgAt (cf G 2) a 1 1 (xs.map fun x => AV.int .u64 x)) : RdV (cf G 2) .nil 2 a xs := by
  have hsz : szOf (cf G 2) 41 = some 1 := by kernel_rfl
  rcases h with ⟨rfl, h⟩ | ⟨len, cap, rfl, h1, h2, h3⟩
  · have hl : xs = [] := by simpa using h
    subst hl
    refine ⟨fun S' => by simp [builtV, aLen, und23], 0, 0, .nilslice, fun S' => ?_, fun e => absurd rfl e, by simp, fun S' => by simp [builtV, aLen, und23], fun i hi => by simp at hi, fun i x hi => by simp at hi⟩
    have hn0 : natOf (.int .i64 0) = some 0 := rfl
    simp [aSlice, und23, aBounds, leO, hn0, hsz, cnd_ite]
  · rw [List.length_map, Nat.mul_one] at h2
    rw [List.length_map] at h3
    subst h2
    have hm : min xs.length 30 ≤ xs.length := Nat.min_le_left _ _
    have hm2 : min xs.length 30 ≤ 30 := Nat.min_le_right _ _
    generalize hq : min xs.length 30 = q at hm hm2
    refine ⟨fun S' => by simp [builtV, aLen, und23, intR], 1, 0, .slice 1 0 q cap, fun S' => ?_, fun _ => by decide, by simp; omega, fun S' => ?_, fun i hi => ?_, fun i x hi => ?_⟩
    · have h1' : Nat.ble q cap = true := ble_of (by omega)
      have key : aBounds xs.length cap none (some (.int .i64 (q : Int))) none = some (0, q, cap) := by
        simp only [aBounds, leO, natOf_cast, h1', cnd_ite, if_true]
      try rw [hq]
      simp only [aSlice, und23, hsz, key]
      simp [cnd_ite]
    · simp [builtV, aLen, und23, intR]; omega
    · rw [ixSV_slice _ (by simp at hi; omega)]; simp
    · rw [List.getElem?_take] at hi
      split at hi
      · refine ld1_of (h3 (by have := (List.getElem?_eq_some_iff.1 hi).1; omega)) ?_
        rw [ofList_get, Nat.zero_add, List.getElem?_map, hi]; rfl
      · cases hi
end
end Go.Proofs.Ytkmmngiodbbjcaa

namespace Go.Proofs.Ytkmmngiodbbjcaa
open Go.ChangeShapes Go.WideShapes Go.ChangeAt Go.RowKit
theorem Try.own : ownKnob Try.prog.godebug = none := by kernel_rfl
theorem Try.laid : laidOutB Try.prog = true := by kernel_rfl
theorem names_ok : (Try.prog.funcs.toList.all fun fn => !fn.body.isSome || !(fn.name == "runtime.NumGoroutine")) = true := by kernel_rfl
theorem mixed_ok : Try.prog.follows .mixedOrders = true := by kernel_rfl
theorem pf : Go.AE.PF Try.prog := by
  refine ⟨mixed_ok, fun f fn hf hb => ?_⟩
  have hm : fn ∈ Try.prog.funcs.toList := Array.mem_toList_iff.2 (Array.mem_of_getElem? hf)
  have h := List.all_eq_true.1 names_ok fn hm
  rw [hb] at h
  simpa using h
theorem wakes_played : Go.AE.runCall ⟨Try.prog, .nil, 0, fun _ _ => none, 0⟩ 100000 11 [] = some (.bool true) := by kernel_rfl
theorem orc_ok (w : World) (G : Go.AE.Tr Go.AE.AObj) (n0 : Nat) : Go.AE.OrcOK (cf G n0) w := by
  have h := Go.AE.orcTab_ok (l := [(11, [], .bool true)]) (Go.AE.Env.plain pf w) (by rfl) (fun x hx => by
    rw [List.mem_singleton] at hx; subst hx; exact ⟨_, wakes_played⟩)
  exact ⟨h.val, h.ok⟩
open Go.AE in
theorem order_any (w : World) {v0 v1 : Value} {l : List A4} {xs : List Int} (h0 : Arg w v0 4 (l.map arow).flatten) (h1 : Arg w v1 1 (xs.map fun x => AV.int .u64 x)) :
    Calls Try.prog 3 #[v0, v1] w fun e w' => e = .returned (.bool true) ∧ Below w.heap.size w w' := by
  obtain ⟨G, φ, D, a0, a1, hr, gi, ga, hc, t0, t1⟩ := args_env h0 h1 orcE (P := Try.prog)
  have env : Env (cf G 2) w φ D := ⟨pf, orc_ok w G 2, hr, gi⟩
  have hcall := order_call (G := G) (n0 := 2) (S := .nil) (nx := 2) (Nat.le_refl _) (argAt_rdW t0) (argAt_rdV t1)
  have hok : CallOk (cf G 2) 3 [a0, a1] .nil 2 (fun u _ _ => u = .bool true) (fun _ _ _ => False) := by
    rcases hcall.out with ⟨u, h, _⟩ | ⟨_, _, h⟩
    · have hn : (cf G 2).orc 3 [a0, a1] = none := rfl
      rw [hn] at h; cases h
    · exact h.mono (fun u _ _ h => h.1) (fun _ _ _ h => h)
  have h := callOk_calls env (v := .bool true) rfl ga hok
  rw [hc] at h
  refine h.mono fun e w' ⟨⟨φ', he⟩, hb⟩ => ⟨?_, hb⟩
  rw [he]; rfl
open Go.AE in
theorem arg_mk {w : World} {blk off len cap sz : Nat} {arr : Array Value} {ty : TypeId} {fr : Nat × Nat} (hsz : 0 < sz) (hl : len ≤ cap) {rows : List (List AV)} (hrl : rows.length = len) (hr : ∀ r ∈ rows, r.length = sz) (hp : PlainCells rows.flatten)
    (hb : w.heap[blk]? = some (.cells arr ty fr)) (hc : ∀ (i : Nat) r (j : Nat) v, rows[i]? = some r → r[j]? = some v → arr[off + (i * sz + j)]? = some (conc (fun _ => default) v)) : Arg w (.slice (some ⟨blk, off, none⟩) len cap) sz rows.flatten := by
  have hlen : rows.flatten.length = len * sz := by rw [Go.Proofs.Ytkmmngiodbbjcaa.flat_len sz _ hr, hrl]
  have hall : ∀ (q : Nat) x, rows.flatten[q]? = some x → arr[off + q]? = some (conc (fun _ => default) x) := by
    intro q x hx
    have hq := (List.getElem?_eq_some_iff.1 hx).1
    have hqi : q / sz < rows.length := by rw [hrl]; exact (Nat.div_lt_iff_lt_mul hsz).2 (by omega)
    have hri : rows[q / sz]? = some rows[q / sz] := List.getElem?_eq_getElem hqi
    have hrl' := hr _ (List.getElem_mem hqi)
    have hj : q % sz < rows[q / sz].length := by rw [hrl']; exact Nat.mod_lt _ hsz
    have hrj : rows[q / sz][q % sz]? = some rows[q / sz][q % sz] := List.getElem?_eq_getElem hj
    have he : q / sz * sz + q % sz = q := by rw [Nat.mul_comm]; exact Nat.div_add_mod q sz
    have h1 := flat_get sz rows hr _ _ _ _ hri hrj
    rw [he, hx] at h1
    have h2 := hc _ _ _ _ hri hrj
    rw [he, ← Option.some.inj h1] at h2
    exact h2
  refine .inr ⟨blk, off, len, cap, arr, ty, fr, rfl, hl, hlen, hp, fun h => ⟨hb, ?_, hall⟩⟩
  have h1 := hall (rows.flatten.length - 1) _ (List.getElem?_eq_getElem (by omega))
  have h2 : off + (rows.flatten.length - 1) < arr.size := by
    rcases Nat.lt_or_ge (off + (rows.flatten.length - 1)) arr.size with h | h
    · exact h
    · rw [Array.getElem?_eq_none h] at h1; cases h1
  omega
instance : Inhabited A4 := ⟨⟨0, 0, false, false⟩⟩
theorem cell_at {W : World} {blk off k : Nat} {arr : Array Value} {ty : TypeId} {fr : Nat × Nat} (hb : W.heap[blk]? = some (.cells arr ty fr)) : W.cell? ((⟨blk, off, none⟩ : Addr).add k) = arr[off + k]? := by
  unfold Addr.add World.cell?
  by_cases h : k = 0
  · subst h; simp [hb]
  · simp [h, hb]
theorem slice_block {W : World} {base t e : Nat} {a : Addr} {len cap : Nat} (ht : Try.prog.underlying t = some (.slice e)) (hv : Value.okWide Try.prog W .any base t (.slice (some a) len cap)) : a.spot = none ∧ ∃ arr ty fr, W.heap[a.block]? = some (.cells arr ty fr) := by
  simp only [Value.okWide, ht, Cell.okWide, Cell.ok, World.has] at hv
  obtain ⟨_, _, _, h1, row, cells, h2, _⟩ := hv
  refine ⟨h1, ?_⟩
  unfold World.shape? at h2
  split at h2
  · rename_i c el fr hb; exact ⟨c, el, fr, hb⟩
  · cases h2
open Go.AE Go.Deep in
/-- the law's first argument, as it is read -/
theorem arg_rows {H : Type} {enc : TypeId × Value → H} {W : World} {base : Nat} {v : Value} {d : DataW H} {ps : List MemPlace} (hv : Value.okWide Try.prog W .any base 22 v) (h : DataW.Trod enc Try.prog W 0 (fun _ => true) true 22 v d ps) :
    ∃ l : List A4, Arg W v 4 (l.map arow).flatten := by
  have ht : Try.prog.underlying 22 = some (.slice 65) := by kernel_rfl
  have hc65 : Try.prog.cellsOf 65 = 4 := by kernel_rfl
  have hc3 : Try.prog.cellsOf 3 = 1 := by kernel_rfl
  have hc4 : Try.prog.cellsOf 4 = 1 := by kernel_rfl
  obtain ⟨a, len, cap, rfl⟩ := okWide_slice ht hv
  obtain ⟨fuel, hf⟩ := h
  rcases open_slice ht hf with ⟨hcs, _⟩ | ⟨a', len', cap', m, n, Dd, Pl, hcs, _, hl, _, hm, _, hx⟩
  · simp [Value.cells] at hcs
    obtain ⟨rfl, rfl, rfl⟩ := hcs
    exact ⟨[], .inl ⟨rfl, rfl⟩⟩
  · simp [Value.cells] at hcs
    obtain ⟨rfl, rfl, rfl⟩ := hcs
    simp only [if_true] at hm
    subst hm
    obtain ⟨hsp, arr, ty, fr, hb⟩ := slice_block ht hv
    obtain ⟨blk, off, spot⟩ := a'
    simp only at hsp hb
    subst hsp
    obtain ⟨f, hff⟩ := choose_lt (α := A4) (n := len) (p := fun i a => ∀ j v, (arow a)[j]? = some v → arr[off + (i * 4 + j)]? = some (conc (fun _ => default) v)) (fun i hi => by
      obtain ⟨cs', h1, h2⟩ := hx i (by omega)
      obtain ⟨_, hlen, hcell⟩ := World.cells?_some h1
      obtain ⟨y0, y1, y2, y3, n', _, hl4, e0, e1, e2, e3⟩ := Joins.trod_struct4 Try.underlying65 h2
      rw [hc65] at hl4 hcell
      match cs', hl4 with
      | [c0, c1, c2, c3], _ =>
        simp only [hc3, hc4] at e0 e1 e2 e3
        obtain ⟨k0, g0, _⟩ := DataW.trod_int Try.underlying3 e0
        obtain ⟨k1, g1, _⟩ := DataW.trod_int Try.underlying3 e1
        obtain ⟨k2, g2, _⟩ := DataW.trod_bool Try.underlying4 e2
        obtain ⟨k3, g3, _⟩ := DataW.trod_bool Try.underlying4 e3
        simp at g0 g1 g2 g3
        subst g0 g1 g2 g3
        refine ⟨⟨k0, k1, k2, k3⟩, fun j v hj => ?_⟩
        have hj4 : j < 4 := (List.getElem?_eq_some_iff.1 hj).1
        have := hcell j hj4
        rw [add_add, cell_at hb] at this
        rw [this]
        rcases j with _ | _ | _ | _ | j
        · simp [arow] at hj; subst hj; rfl
        · simp [arow] at hj; subst hj; rfl
        · simp [arow] at hj; subst hj; rfl
        · simp [arow] at hj; subst hj; rfl
        · omega)
    refine ⟨(List.range len).map f, arg_mk (ty := ty) (fr := fr) (arr := arr) (by decide) hl (by simp) (fun r hr => by obtain ⟨_, _, rfl⟩ := List.mem_map.1 hr; rfl) ?_ hb ?_⟩
    · intro v hv
      obtain ⟨r, hr, hv⟩ := List.mem_flatten.1 hv
      obtain ⟨x, _, rfl⟩ := List.mem_map.1 hr
      simp only [arow, List.mem_cons, List.not_mem_nil, or_false] at hv
      rcases hv with rfl | rfl | rfl | rfl <;> exact ⟨fun _ _ => rfl, fun _ => trivial⟩
    · intro i r j v hi hj
      have hil := (List.getElem?_eq_some_iff.1 hi).1
      simp at hil
      simp [hil] at hi
      subst hi
      exact hff i hil j v hj
open Go.AE Go.Deep in
/-- the law's words, as they are read -/
theorem arg_words {H : Type} {enc : TypeId × Value → H} {W : World} {base : Nat} {v : Value} {d : DataW H} {ps : List MemPlace} (hv : Value.okWide Try.prog W .any base 23 v) (h : DataW.Trod enc Try.prog W 0 (fun _ => true) true 23 v d ps) :
    ∃ xs : List Int, Arg W v 1 (xs.map fun x => AV.int .u64 x) := by
  have ht : Try.prog.underlying 23 = some (.slice 41) := by kernel_rfl
  have hc : Try.prog.cellsOf 41 = 1 := by kernel_rfl
  obtain ⟨a, len, cap, rfl⟩ := okWide_slice ht hv
  obtain ⟨fuel, hf⟩ := h
  rcases open_slice1 ht hc hf with ⟨hcs, _⟩ | ⟨a', len', cap', m, n, V, Dd, Pl, hcs, _, hl, _, hm, _, hx⟩
  · simp [Value.cells] at hcs
    obtain ⟨rfl, rfl, rfl⟩ := hcs
    exact ⟨[], .inl ⟨rfl, rfl⟩⟩
  · simp [Value.cells] at hcs
    obtain ⟨rfl, rfl, rfl⟩ := hcs
    simp only [if_true] at hm
    subst hm
    obtain ⟨hsp, arr, ty, fr, hb⟩ := slice_block ht hv
    obtain ⟨blk, off, spot⟩ := a'
    simp only at hsp hb
    subst hsp
    obtain ⟨f, hff⟩ := choose_lt (α := Int) (n := len) (p := fun i x => arr[off + i]? = some (.int .u64 x)) (fun i hi => by
      obtain ⟨h1, h2⟩ := hx i (by omega)
      obtain ⟨k, g, _⟩ := DataW.trod_int Try.underlying41 h2
      simp at g
      rw [cell_at hb, g] at h1
      exact ⟨k, h1⟩)
    have hrows : ((List.range len).map f).map (fun x => AV.int .u64 x) = (((List.range len).map f).map fun x => [AV.int .u64 x]).flatten := by
      induction ((List.range len).map f) with
      | nil => rfl
      | cons a l ih => simp only [List.map_cons, List.flatten_cons, ih]; rfl
    refine ⟨(List.range len).map f, ?_⟩
    rw [hrows]
    refine arg_mk (ty := ty) (fr := fr) (arr := arr) (by decide) hl (by simp) (fun r hr => by obtain ⟨_, _, rfl⟩ := List.mem_map.1 hr; rfl) ?_ hb ?_
    · intro v hv
      obtain ⟨r, hr, hv⟩ := List.mem_flatten.1 hv
      obtain ⟨x, _, rfl⟩ := List.mem_map.1 hr
      simp only [List.mem_cons, List.not_mem_nil, or_false] at hv
      subst hv
      exact ⟨fun _ _ => rfl, fun _ => trivial⟩
    · intro i r j v hi hj
      have hil := (List.getElem?_eq_some_iff.1 hi).1
      simp at hil
      simp [hil] at hi
      subst hi
      have hj0 : j < 1 := (List.getElem?_eq_some_iff.1 hj).1
      have : j = 0 := by omega
      subst this
      simp at hj
      subst hj
      rw [Nat.mul_one, Nat.add_zero]
      exact hff i hil
set_option maxRecDepth 100000 in
theorem order_lifted (os : Os) (started : os.Started) (H : Type) (enc : TypeId × Value → H) :
    ReturnsInHanded {} Try.checked os 3 .any (Rows.enableOrderSpec.pre6 enc Try.prog Try.f3 Rows.enableOrderRow.domain false) (Rows.enableOrderSpec.post enc Try.prog Try.f3 false true false false) := by
  refine returnsInHanded_of_change (C := Try.checked) Try.own started (by kernel_rfl) Try.func3
    (ChangeSpec.witness6 (enc := enc) (C := Try.checked) false ⟨#[], #[.slice none 0 0, .slice none 0 0], []⟩ 8 (by kernel_rfl) (by kernel_rfl) (by kernel_rfl) (by kernel_rfl)) ?_
  intro W base args ds gs before hval0 hW hcnd _
  have hval : ∀ (j : Nat) t v, Try.f3.params[j]? = some t → args[j]? = some v → Value.okWide Try.prog W .any base t v := hval0
  have hW' := hW
  obtain ⟨p, q, hA0, hV, rfl, hfz, hnd⟩ := hW
  have hA : DataW.TrodAll enc Try.prog W 0 (fun _ => true) true Try.f3.params.toList args.toList ds p := hA0
  rw [Try.params3] at hA hval
  obtain ⟨v0, v1, d0, d1, p0, p1, rfl, rfl, rfl, h0, h1⟩ := trodAll_two hA
  obtain ⟨rfl, rfl⟩ := trodVars_none hV
  clear hA0 hval0
  have hlt0 : ∀ x ∈ p0, x.block < W.heap.size := fun x hx => by simpa using hW'.lt x (by simp [hx])
  have hlt1 : ∀ x ∈ p1, x.block < W.heap.size := fun x hx => by simpa using hW'.lt x (by simp [hx])
  obtain ⟨l, hl⟩ := arg_rows (hval 0 22 v0 rfl rfl) h0
  obtain ⟨xs, hxs⟩ := arg_words (hval 1 23 v1 rfl rfl) h1
  refine (order_any W hl hxs).mono fun e W' ⟨he, hb⟩ => ?_
  subst he
  exact ⟨_, rfl, _, _, _, [] ++ [], p0 ++ p1, [], hW', trodAll_mk1 (shut_bool (by kernel_rfl) true), trodAll_mk2 (Below.trod Try.laid (by kernel_rfl) (of_decide_eq_true (by kernel_rfl)) h0 hb hlt0) (Below.trod Try.laid (by kernel_rfl) (of_decide_eq_true (by kernel_rfl)) h1 hb hlt1), rfl, Below.frame hb _, fun h => by cases h⟩
theorem order_holds : Rows.EnableOrderSaid :=
  OpenClaim.holds_of_wide 3 Try.f3 rfl rfl rfl rfl rfl rfl rfl ⟨rfl, rfl, rfl, rfl, rfl⟩ rfl rfl rfl rfl rfl (by kernel_rfl) Try.func3 (by kernel_rfl)
    (of_decide_eq_true (by kernel_rfl)) (by unfold Func.isWrapper; first | (rw [if_pos (by decide +kernel)]; kernel_rfl) | (rw [if_neg (by decide +kernel)]; exact ⟨rfl, rfl⟩))
    (fun os started H enc _ => order_lifted os started H enc)
end Go.Proofs.Ytkmmngiodbbjcaa
