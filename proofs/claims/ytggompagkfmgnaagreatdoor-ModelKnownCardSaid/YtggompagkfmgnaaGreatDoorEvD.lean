/- The evaluator starts where the package-level variables read as a row lists them; condition: that reading. -/
import Derived.Test.YtggompagkfmgnaaGreatDoorEvC
import Derived.ChangeReads
import GoSem.ClaimJoined
import Derived.Lib.Bytealg
import Derived.LaidLaws
namespace Go.AE
noncomputable section
open Go.RowKit (Below)

/-! ### Package-level variables, as they are read -/
abbrev LR := Option (List AV × Nat × List (Nat × AObj))
def layFields (P : Program) (next : Nat → DataW Unit → Nat → LR) : List Field → List (DataW Unit) → Nat → Nat → LR
  | [], [], _, n => some ([], n, [])
  | f :: fs, d :: ds, off, n => cnd (Nat.beq f.offset off) (match next f.type d n with
    | some (l, n1, os) => cnd (Nat.beq l.length (P.cellsOf f.type)) (match layFields P next fs ds (off + l.length) n1 with
      | some (l2, n2, os2) => some (l ++ l2, n2, os ++ os2)
      | none => none) none
    | none => none) none
  | _, _, _, _ => none
def layElems (P : Program) (next : Nat → DataW Unit → Nat → LR) (e : Nat) : List (DataW Unit) → Nat → LR
  | [], n => some ([], n, [])
  | d :: ds, n => match next e d n with
    | some (l, n1, os) => cnd (Nat.beq l.length (P.cellsOf e)) (match layElems P next e ds n1 with
      | some (l2, n2, os2) => some (l ++ l2, n2, os ++ os2)
      | none => none) none
    | none => none
def keyV : Lit → Option AV
  | .bool b => some (.bool b)
  | .int k n => some (.int k n)
  | .string s => some (.str (s.map (·.toNat)))
  | _ => none
def layV (P : Program) (e : Nat) (l : List AV) : Option AV := match P.underlying e with
  | some (.struct _) => some (.agg l)
  | some (.array _ _) => some (.agg l)
  | some _ => (match l with | [v] => some v | _ => none)
  | none => none
def plainKey (P : Program) (k : Nat) : Bool := match P.underlying k with | some .bool => true | some (.int _) => true | some .string => true | _ => false
def layEntries (P : Program) (next : Nat → DataW Unit → Nat → LR) (e : Nat) : List (Lit × DataW Unit) → Nat → Option (List (AV × AV) × Nat × List (Nat × AObj))
  | [], n => some ([], n, [])
  | (key, d) :: es, n => match keyV key, next e d n with
    | some kv, some (l, n1, os) => (match layV P e l, layEntries P next e es n1 with
      | some v, some (r, n2, os2) => some ((kv, v) :: r, n2, os ++ os2)
      | _, _ => none)
    | _, _ => none
def rowObj (l : List AV) : AObj := .cells (Tr.ofList l 0 .nil) l.length .own
def lay (P : Program) : Nat → Nat → DataW Unit → Nat → LR
  | 0, _, _, _ => none
  | m + 1, t, d, n => match P.underlying t, d with
    | some .bool, .lit (.bool b) => some ([.bool b], n, [])
    | some (.int _), .lit (.int k i) => some ([.int k i], n, [])
    | some .string, .lit (.string s) => some ([.str (s.map (·.toNat))], n, [])
    | some (.pointer _), .nil => some ([.nilptr], n, [])
    | some (.pointer e), .ptr d => (match lay P m e d (n + 1) with
      | some (l, n1, os) => cnd (Nat.beq l.length (P.cellsOf e) && Nat.blt 0 l.length) (some ([.ptr n 0], n1, (n, rowObj l) :: os)) none
      | none => none)
    | some (.slice _), .nil => some ([.nilslice], n, [])
    | some (.slice e), .slice es sp => (match sp with
      | [] => (match layElems P (lay P m) e es (n + 1) with
        | some (l, n1, os) => cnd (Nat.blt 0 l.length) (some ([.slice n 0 es.length es.length], n1, (n, rowObj l) :: os)) none
        | none => none)
      | _ :: _ => none)
    | some (.struct fs), .agg ds => (match layFields P (lay P m) fs.toList ds 0 n with
      | some (l, n1, os) => cnd (Nat.beq l.length (P.cellsOf t)) (some (l, n1, os)) none
      | none => none)
    | some (.array _ e), .agg ds => (match layElems P (lay P m) e ds n with
      | some (l, n1, os) => cnd (Nat.beq l.length (P.cellsOf t)) (some (l, n1, os)) none
      | none => none)
    | some (.interface _), .nil => some ([.nilIface], n, [])
    | some (.map _ _), .nil => some ([.nilmap], n, [])
    | some (.map k e), .map es => cnd (plainKey P k) (match layEntries P (lay P m) e es (n + 1) with
      | some (r, n1, os) => some ([.map n], n1, (n, .look r) :: os)
      | none => none) none
    | _, _ => none

section
variable {C : Cfg} {P : Program} {w : World}
def Froz (w : World) (ps : List MemPlace) : Prop := ∀ b off, MemPlace.cell b off ∈ ps → ∃ c t, w.heap[b]? = some (.cells c t (0, 0))
def OldW (o : AObj) : Prop := ∀ C D, OldsIn C D o
/-- what was read lies where the numbers say -/
def Lays (C : Cfg) (w : World) (n : Nat) (cs : List Value) (r : List AV × Nat × List (Nat × AObj)) : Prop :=
  n ≤ r.2.1 ∧ (∀ x ∈ r.2.2, n ≤ x.1 ∧ x.1 < r.2.1 ∧ OldW x.2) ∧ ∃ f : Nat → Pl, ∀ φ D, (∀ b, n ≤ b → b < r.2.1 → φ b = f b ∧ D b) → cs = concs φ r.1 ∧ goods D r.1 ∧ ∀ x ∈ r.2.2, ORel C φ D x.2 (φ x.1) w
theorem Lays.plain {n : Nat} {cs : List Value} {l : List AV} (h : ∀ φ D, cs = concs φ l ∧ goods D l) : Lays C w n cs (l, n, []) :=
  ⟨Nat.le_refl _, by simp, fun _ => default, fun φ D _ => ⟨(h φ D).1, (h φ D).2, by simp⟩⟩
theorem Lays.app {n n1 n2 : Nat} {cs1 cs2 : List Value} {l1 l2 : List AV} {os1 os2 : List (Nat × AObj)} (h1 : Lays C w n cs1 (l1, n1, os1)) (h2 : Lays C w n1 cs2 (l2, n2, os2)) : Lays C w n (cs1 ++ cs2) (l1 ++ l2, n2, os1 ++ os2) := by
  obtain ⟨a1, a2, f1, a3⟩ := h1
  obtain ⟨b1, b2, f2, b3⟩ := h2
  refine ⟨Nat.le_trans a1 b1, ?_, fun b => if b < n1 then f1 b else f2 b, ?_⟩
  · intro x hx
    rcases List.mem_append.1 hx with h | h
    · obtain ⟨q1, q2, q3⟩ := a2 x h
      exact ⟨q1, Nat.lt_of_lt_of_le q2 b1, q3⟩
    · obtain ⟨q1, q2, q3⟩ := b2 x h
      exact ⟨Nat.le_trans a1 q1, q2, q3⟩
  · intro φ D hφ
    obtain ⟨c1, c2, c3⟩ := a3 φ D (fun b h1 h2 => by
      have h2' : b < n1 := h2
      have := hφ b h1 (Nat.lt_of_lt_of_le h2 b1)
      simp only [if_pos h2'] at this
      exact this)
    obtain ⟨d1, d2, d3⟩ := b3 φ D (fun b h1 h2 => by
      have h1' : ¬ b < n1 := Nat.not_lt.2 h1
      have := hφ b (Nat.le_trans a1 h1) h2
      simp only [if_neg h1'] at this
      exact this)
    refine ⟨by rw [concs_app, ← c1, ← d1], goods_app c2 d2, ?_⟩
    intro x hx
    rcases List.mem_append.1 hx with h | h
    · exact c3 x h
    · exact d3 x h
theorem mapM_some {α β : Type} {f : α → Option β} : ∀ {l : List α} {r : List β}, l.mapM f = some r → r.length = l.length ∧ ∀ (i : Nat) (a : α) (b : β), l[i]? = some a → r[i]? = some b → f a = some b := by
  intro l
  induction l with
  | nil => intro r h; simp at h; subst h; simp
  | cons a l ih =>
    intro r h
    simp only [List.mapM_cons, Option.bind_eq_bind, Option.bind_eq_some_iff] at h
    obtain ⟨b, hb, r', hr, h⟩ := h
    simp at h; subst h
    obtain ⟨h1, h2⟩ := ih hr
    refine ⟨by simp [h1], fun i a' b' ha hb' => ?_⟩
    cases i with
    | zero => simp at ha hb'; subst ha; subst hb'; exact hb
    | succ i => exact h2 i a' b' (by simpa using ha) (by simpa using hb')
theorem mapM_cons_some {α β : Type} {f : α → Option β} {a : α} {l : List α} {r : List β} (h : (a :: l).mapM f = some r) : ∃ b r', r = b :: r' ∧ f a = some b ∧ l.mapM f = some r' := by
  simp only [List.mapM_cons, Option.bind_eq_bind, Option.bind_eq_some_iff] at h
  obtain ⟨b, hb, r', hr, h⟩ := h
  simp at h; subst h
  exact ⟨b, r', rfl, hb, hr⟩
theorem Froz.of {ps qs : List MemPlace} (h : Froz w ps) (hs : ∀ x ∈ qs, x ∈ ps) : Froz w qs := fun b off hb => h b off (hs _ hb)

/-- what the reader of the parts tells -/
def ReadOk (C : Cfg) (w : World) (next : Nat → DataW Unit → Nat → LR) (R : TypeId → List Value → Option (DataW Unit × List MemPlace)) : Prop :=
  ∀ t d n r, next t d n = some r → ∀ cs ps, R t cs = some (d, ps) → Froz w ps → Lays C w n cs r
variable {next : Nat → DataW Unit → Nat → LR} {R : TypeId → List Value → Option (DataW Unit × List MemPlace)}
theorem layFields_sound (hR : ReadOk C w next R) {cs : List Value} : ∀ (fs : List Field) (ds : List (DataW Unit)) (off n : Nat) (r : List AV × Nat × List (Nat × AObj)), layFields P next fs ds off n = some r →
    ∀ xs : List (DataW Unit × List MemPlace), (fs.mapM fun f => R f.type ((cs.drop f.offset).take (P.cellsOf f.type))) = some xs → xs.map (·.1) = ds → Froz w (xs.flatMap (·.2)) → Lays C w n ((cs.drop off).take r.1.length) r := by
  intro fs
  induction fs with
  | nil =>
    intro ds off n r h xs _ _ _
    cases ds with
    | nil => simp [layFields] at h; subst h; exact .plain fun φ D => ⟨by simp [concs], trivial⟩
    | cons d ds => simp [layFields] at h
  | cons f fs ih =>
    intro ds off n r h xs hx hd hz
    cases ds with
    | nil => simp [layFields] at h
    | cons d ds =>
      simp only [layFields, cnd_none] at h
      obtain ⟨hoff, h⟩ := h
      have hoff := Nat.eq_of_beq_eq_true hoff
      split at h
      · rename_i l n1 os hr
        simp only [cnd_none] at h
        obtain ⟨hl, h⟩ := h
        have hl := Nat.eq_of_beq_eq_true hl
        split at h
        · rename_i l2 n2 os2 hr2
          simp at h; subst h
          obtain ⟨y, ys, rfl, hy, hys⟩ := mapM_cons_some hx
          simp at hd
          obtain ⟨rfl, hd⟩ := hd
          have h1 := hR _ _ _ _ hr _ y.2 (by rw [hy]) (hz.of (by intro x hx; simp; exact .inl hx))
          have h2 := ih ds (off + l.length) n1 _ hr2 ys hys hd (hz.of (by intro x hx; simp only [List.flatMap_cons, List.mem_append]; exact .inr hx))
          rw [hoff, ← hl] at h1
          have := h1.app h2
          simp only [List.length_append]
          rw [List.take_add, List.drop_drop]
          exact this
        · simp at h
      · simp at h
theorem flat_rows (cs : List Value) (k : Nat) : ∀ (m i0 : Nat), (List.range' i0 m).flatMap (fun i => (cs.drop (i * k)).take k) = (cs.drop (i0 * k)).take (m * k) := by
  intro m
  induction m with
  | zero => intro i0; simp
  | succ m ih =>
    intro i0
    rw [List.range'_succ, List.flatMap_cons, ih, Nat.add_mul m 1 k, Nat.one_mul, Nat.add_comm (m * k) k, List.take_add, List.drop_drop, Nat.add_mul i0 1 k, Nat.one_mul]
theorem layElems_sound (hR : ReadOk C w next R) {e : Nat} {g : Nat → List Value} : ∀ (ds : List (DataW Unit)) (i0 n : Nat) (r : List AV × Nat × List (Nat × AObj)), layElems P next e ds n = some r →
    ∀ xs : List (DataW Unit × List MemPlace), ((List.range' i0 ds.length).mapM fun i => R e (g i)) = some xs → xs.map (·.1) = ds → Froz w (xs.flatMap (·.2)) → Lays C w n ((List.range' i0 ds.length).flatMap g) r ∧ r.1.length = ds.length * P.cellsOf e := by
  intro ds
  induction ds with
  | nil =>
    intro i0 n r h xs _ _ _
    simp [layElems] at h; subst h
    exact ⟨.plain fun φ D => ⟨by simp [concs], trivial⟩, by simp⟩
  | cons d ds ih =>
    intro i0 n r h xs hx hd hz
    simp only [layElems] at h
    split at h
    · rename_i l n1 os hr
      simp only [cnd_none] at h
      obtain ⟨hl, h⟩ := h
      have hl := Nat.eq_of_beq_eq_true hl
      split at h
      · rename_i l2 n2 os2 hr2
        simp at h; subst h
        simp only [List.length_cons, List.range'_succ] at hx
        obtain ⟨y, ys, rfl, hy, hys⟩ := mapM_cons_some hx
        simp at hd
        obtain ⟨rfl, hd⟩ := hd
        have h1 := hR _ _ _ _ hr _ y.2 (by rw [hy]) (hz.of (by intro x hx; simp; exact .inl hx))
        obtain ⟨h2, h3⟩ := ih (i0 + 1) n1 _ hr2 ys hys hd (hz.of (by intro x hx; simp only [List.flatMap_cons, List.mem_append]; exact .inr hx))
        refine ⟨?_, ?_⟩
        · simp only [List.length_cons, List.range'_succ, List.flatMap_cons]
          exact h1.app h2
        · simp only [List.length_append, List.length_cons, h3, hl, Nat.succ_mul]
          omega
      · simp at h
    · simp at h
end
end
end Go.AE

namespace Go.AE
noncomputable section
open Go.RowKit (Below)
section
variable {C : Cfg} {P : Program} {w : World}
theorem cell_at {a : Addr} {v : Value} (h : w.cell? a = some v) : a.spot = none ∧ ∃ arr ty rg, w.heap[a.block]? = some (.cells arr ty rg) ∧ arr[a.off]? = some v := by
  unfold World.cell? at h
  split at h
  · rename_i c ty rg hb
    split at h
    · cases h
    · rename_i hs
      refine ⟨?_, c, ty, rg, hb, h⟩
      cases hq : a.spot with
      | none => rfl
      | some x => rw [hq] at hs; exact absurd rfl hs
  · cases h
theorem add_block (a : Addr) (j : Nat) : (a.add j).block = a.block := by unfold Addr.add; split <;> rfl
theorem add_off (a : Addr) (j : Nat) : (a.add j).off = a.off + j := by unfold Addr.add; split <;> simp_all
/-- cells that were read, in their row -/
theorem cells_arr {a : Addr} {k : Nat} {g : List Value} {arr : Array Value} {ty : TypeId} {rg : Nat × Nat} (hb : w.heap[a.block]? = some (.cells arr ty rg)) (h : w.cells? 0 a k = some g) : g = (arr.toList.drop a.off).take k ∧ g.length = k := by
  unfold World.cells? at h
  rw [if_pos (Nat.zero_le _)] at h
  obtain ⟨h1, h2⟩ := mapM_some h
  rw [List.length_range] at h1
  have key : ∀ j, j < k → arr[a.off + j]? = g[j]? := by
    intro j hj
    have hg : g[j]? = some g[j] := List.getElem?_eq_getElem (by omega)
    have := h2 j j g[j] (by simp [hj]) hg
    obtain ⟨_, arr', ty', rg', q1, q2⟩ := cell_at this
    rw [add_block, hb] at q1
    cases q1
    rw [add_off] at q2
    rw [q2, hg]
  refine ⟨List.ext_getElem? fun j => ?_, h1⟩
  by_cases hj : j < k
  · rw [List.getElem?_take_of_lt hj, List.getElem?_drop, ← key j hj]; simp
  · rw [List.getElem?_eq_none (by omega), List.getElem?_eq_none (by simp; omega)]
theorem old_row (l : List AV) : OldW (rowObj l) := fun _ _ => ⟨fun _ _ _ h => (by cases h), fun _ _ _ h => (by cases h; exact ofList_lt)⟩
theorem old_look (l : List (AV × AV)) : OldW (.look l) := fun _ _ => ⟨fun _ _ _ h => (by cases h), fun _ _ _ h => (by cases h)⟩
/-- a row of cells that was read -/
theorem row_rel {φ : Phi} {D : Nat → Prop} {l : List AV} {pl : Pl} {arr : Array Value} {ty : TypeId} (hb : w.heap[pl.blk]? = some (.cells arr ty (0, 0))) (hl : (arr.toList.drop pl.sh).take l.length = concs φ l) (g : goods D l) (hz : 0 < l.length) : ORel C φ D (rowObj l) pl w := by
  have hlen : l.length ≤ arr.size - pl.sh := by
    have := congrArg List.length hl
    rw [concs_len] at this
    simp at this
    omega
  refine ⟨arr, ty, 0, 0, hb, rfl, by omega, fun i v hv => ?_⟩
  rw [ofList_get] at hv
  have hi : i < l.length := (List.getElem?_eq_some_iff.1 hv).1
  refine ⟨?_, goods_get g hv⟩
  have := congrArg (fun x : List Value => x[i]?) hl
  simp only [List.getElem?_take_of_lt hi, List.getElem?_drop, Array.getElem?_toList, concs_get, hv, Option.map_some] at this
  exact this
/-- a new number for what was read -/
theorem Lays.block {n n1 : Nat} {os : List (Nat × AObj)} {cs : List Value} {l : List AV} {u : AV} {x : Value} {ob : AObj} (pl : Pl) (h : Lays C w (n + 1) cs (l, n1, os)) (ho : OldW ob)
    (hob : ∀ φ D, φ n = pl → D n → cs = concs φ l → goods D l → ORel C φ D ob pl w ∧ x = conc φ u ∧ good D u) : Lays C w n [x] ([u], n1, (n, ob) :: os) := by
  obtain ⟨a1, a2, f, a3⟩ := h
  have a1 : n + 1 ≤ n1 := a1
  refine ⟨by simp only; omega, ?_, fun b => if b = n then pl else f b, ?_⟩
  · intro y hy
    rcases List.mem_cons.1 hy with rfl | hy
    · exact ⟨Nat.le_refl _, by simp only; omega, ho⟩
    · obtain ⟨q1, q2, q3⟩ := a2 y hy
      exact ⟨by omega, q2, q3⟩
  · intro φ D hφ
    have hn := hφ n (Nat.le_refl _) (by simp only; omega)
    simp only [if_true] at hn
    obtain ⟨c1, c2, c3⟩ := a3 φ D (fun b h1 h2 => by
      have := hφ b (by omega) h2
      have hne : b ≠ n := by omega
      simp only [if_neg hne] at this
      exact this)
    obtain ⟨r1, r2, r3⟩ := hob φ D hn.1 hn.2 c1 c2
    refine ⟨by simp [concs, r2], ⟨r3, trivial⟩, ?_⟩
    intro y hy
    rcases List.mem_cons.1 hy with rfl | hy
    · simp only [hn.1]; exact r1
    · exact c3 y hy
/-! ### Maps -/
theorem perm_map_ex {α β : Type} {f : α → β} {a m : List β} (h : a.Perm m) : ∀ l : List α, l.map f = a → ∃ l' : List α, l'.Perm l ∧ l'.map f = m := by
  induction h with
  | nil => intro l h; simp at h; subst h; exact ⟨[], .refl _, rfl⟩
  | cons x _ ih =>
    intro l h
    cases l with
    | nil => simp at h
    | cons y l =>
      simp at h
      obtain ⟨l', h1, h2⟩ := ih l h.2
      exact ⟨y :: l', h1.cons y, by simp [h.1, h2]⟩
  | swap x y l0 =>
    intro l h
    cases l with
    | nil => simp at h
    | cons p l =>
      cases l with
      | nil => simp at h
      | cons q l =>
        simp at h
        obtain ⟨rfl, rfl, rfl⟩ := h
        exact ⟨q :: p :: l, .swap _ _ _, by simp⟩
  | trans _ _ ih1 ih2 =>
    intro l h
    obtain ⟨l1, h1, h2⟩ := ih1 l h
    obtain ⟨l2, h3, h4⟩ := ih2 l1 h2
    exact ⟨l2, h3.trans h1, h4⟩
theorem insert_perm {H : Type} (x : Lit × DataW H) : ∀ l, (DataW.insert x l).Perm (x :: l) := by
  intro l
  induction l with
  | nil => exact .refl _
  | cons y l ih =>
    simp only [DataW.insert]
    split
    · exact .refl _
    · exact (ih.cons y).trans (.swap _ _ _)
theorem sorted_perm {H : Type} : ∀ l : List (Lit × DataW H), (l.foldr DataW.insert []).Perm l := by
  intro l
  induction l with
  | nil => exact .refl _
  | cons x l ih => exact (insert_perm x _).trans (ih.cons x)
theorem key_sound {k : Nat} {v : Value} {key : Lit} {kv : AV} (hp : plainKey P k = true) (h : keyOf P k v = some key) (hk : keyV key = some kv) (φ : Phi) (D : Nat → Prop) : v = conc φ kv ∧ good D kv := by
  unfold plainKey at hp
  unfold keyOf at h
  have e : mapKey P k v = some key := by
    cases hu : P.underlying k with
    | none => rw [hu] at hp; cases hp
    | some u => rw [hu] at h hp; cases u <;> first | exact h | cases hp
  unfold mapKey at e
  split at e
  · simp at e; subst e; simp [keyV] at hk; subst hk; exact ⟨rfl, trivial⟩
  · split at e
    · rename_i q q' n _ hq
      simp at e; subst e; simp [keyV] at hk; subst hk
      exact ⟨by rw [hq.1]; rfl, trivial⟩
    · cases e
  · split at e
    · rename_i s _ _
      simp at e; subst e; simp [keyV] at hk; subst hk
      refine ⟨by simp only [conc]; rw [bytesOf_toNat], ?_⟩
      intro x hx
      simp at hx
      obtain ⟨b, _, rfl⟩ := hx
      exact b.toNat_lt
    · cases e
  · cases e
theorem val_sound {e : Nat} {v : Value} {l : List AV} {u : AV} {φ : Phi} {D : Nat → Prop} (hf : v.formed P e = true) (hu : layV P e l = some u) (hc : v.cells.toList = concs φ l) (g : goods D l) : v = conc φ u ∧ good D u := by
  unfold layV at hu
  unfold Value.formed at hf
  cases hd : P.underlying e with
  | none => rw [hd] at hu; cases hu
  | some td =>
    rw [hd] at hu hf
    have agg : (∃ cs, v = .agg cs) → u = .agg l → v = conc φ u ∧ good D u := by
      rintro ⟨cs, rfl⟩ rfl
      refine ⟨?_, g⟩
      simp only [Value.cells] at hc
      simp only [conc, ← hc]
    have single : v.cells = #[v] → (∃ x, l = [x] ∧ u = x) → v = conc φ u ∧ good D u := by
      rintro h1 ⟨x, rfl, rfl⟩
      rw [h1] at hc
      simp [concs] at hc
      exact ⟨hc, g.1⟩
    cases v <;> cases td <;> simp only at hf hu <;> first
      | (cases hf; done)
      | (simp at hu; exact agg ⟨_, rfl⟩ hu.symm)
      | (split at hu
         · simp at hu; exact single rfl ⟨_, rfl, hu.symm⟩
         · cases hu)
end
end
end Go.AE

namespace Go.AE
noncomputable section
open Go.RowKit (Below)
section
variable {C : Cfg} {P : Program} {w : World}
variable {next : Nat → DataW Unit → Nat → LR} {R : TypeId → List Value → Option (DataW Unit × List MemPlace)}
theorem layEntries_sound (hR : ReadOk C w next R) {k e : Nat} (hp : plainKey P k = true) : ∀ (es : List (Lit × DataW Unit)) (n : Nat) (r : List (AV × AV) × Nat × List (Nat × AObj)), layEntries P next e es n = some r →
    ∀ Z : List (MapEntry × ((Lit × DataW Unit) × List MemPlace)), Z.map (·.2.1) = es → (∀ z ∈ Z, keyOf P k z.1.key = some z.2.1.1 ∧ z.1.val.formed P e = true ∧ R e z.1.val.cells.toList = some (z.2.1.2, z.2.2) ∧ Froz w z.2.2) →
    n ≤ r.2.1 ∧ (∀ x ∈ r.2.2, n ≤ x.1 ∧ x.1 < r.2.1 ∧ OldW x.2) ∧ r.1.length = Z.length ∧ ∃ f : Nat → Pl, ∀ φ D, (∀ b, n ≤ b → b < r.2.1 → φ b = f b ∧ D b) →
      Z.map (·.1) = (List.zipWith (fun (p : AV × AV) (z : MapEntry × ((Lit × DataW Unit) × List MemPlace)) => (p.1, p.2, z.1.born)) r.1 Z).map (entryOf φ) ∧ (∀ p ∈ r.1, good D p.1 ∧ good D p.2) ∧ ∀ x ∈ r.2.2, ORel C φ D x.2 (φ x.1) w := by
  intro es
  induction es with
  | nil =>
    intro n r h Z hZ _
    simp [layEntries] at h; subst h
    simp at hZ; subst hZ
    exact ⟨Nat.le_refl _, by simp, rfl, fun _ => default, fun φ D _ => ⟨rfl, by simp, by simp⟩⟩
  | cons a es ih =>
    obtain ⟨key, d⟩ := a
    intro n r h Z hZ hall
    simp only [layEntries] at h
    split at h
    · rename_i kv l n1 os hkv hn
      split at h
      · rename_i v r0 n2 os2 hv hr
        simp at h; subst h
        cases Z with
        | nil => simp at hZ
        | cons z Z =>
          simp at hZ
          obtain ⟨hz1, hz2⟩ := hZ
          obtain ⟨g1, g2, g3, g4⟩ := hall z (List.mem_cons_self ..)
          rw [hz1] at g1 g3
          obtain ⟨a1, a2, f1, a3⟩ := hR _ _ _ _ hn _ _ g3 g4
          obtain ⟨b1, b2, b0, f2, b3⟩ := ih n1 _ hr Z hz2 (fun z hz => hall z (List.mem_cons_of_mem _ hz))
          have a1 : n ≤ n1 := a1
          have b1 : n1 ≤ n2 := b1
          refine ⟨Nat.le_trans a1 b1, ?_, by simpa using b0, fun b => if b < n1 then f1 b else f2 b, ?_⟩
          · intro x hx
            rcases List.mem_append.1 hx with q | q
            · obtain ⟨q1, q2, q3⟩ := a2 x q
              exact ⟨q1, Nat.lt_of_lt_of_le q2 b1, q3⟩
            · obtain ⟨q1, q2, q3⟩ := b2 x q
              exact ⟨Nat.le_trans a1 q1, q2, q3⟩
          · intro φ D hφ
            obtain ⟨c1, c2, c3⟩ := a3 φ D (fun b h1 h2 => by
              have h2' : b < n1 := h2
              have := hφ b h1 (Nat.lt_of_lt_of_le h2 b1)
              simp only [if_pos h2'] at this
              exact this)
            obtain ⟨d1, d2, d3⟩ := b3 φ D (fun b h1 h2 => by
              have h1' : ¬ b < n1 := Nat.not_lt.2 h1
              have := hφ b (Nat.le_trans a1 h1) h2
              simp only [if_neg h1'] at this
              exact this)
            obtain ⟨k1, k2⟩ := key_sound hp g1 hkv φ D
            obtain ⟨v1, v2⟩ := val_sound g2 hv c1 c2
            refine ⟨?_, ?_, ?_⟩
            · simp only [List.map_cons, List.zipWith_cons_cons, d1]
              congr 1
              obtain ⟨⟨zk, zv, zb⟩, _⟩ := z
              simp only [entryOf] at k1 v1 ⊢
              rw [← k1, ← v1]
            · intro p hp
              rcases List.mem_cons.1 hp with rfl | hp
              · exact ⟨k2, v2⟩
              · exact d2 p hp
            · intro x hx
              rcases List.mem_append.1 hx with q | q
              · exact c3 x q
              · exact d3 x q
      · simp at h
    · simp at h
theorem zip_pairs {Z : List (MapEntry × ((Lit × DataW Unit) × List MemPlace))} : ∀ (r : List (AV × AV)) (Z : List (MapEntry × ((Lit × DataW Unit) × List MemPlace))), r.length = Z.length →
    (List.zipWith (fun (p : AV × AV) (z : MapEntry × ((Lit × DataW Unit) × List MemPlace)) => (p.1, p.2, z.1.born)) r Z).map (fun e => (e.1, e.2.1)) = r := by
  intro r
  induction r with
  | nil => intro Z _; simp
  | cons p r ih =>
    intro Z h
    cases Z with
    | nil => simp at h
    | cons z Z => simp [ih Z (by simpa using h)]
theorem mapM_cong {α β : Type} {f g : α → Option β} : ∀ {l : List α}, (∀ x ∈ l, f x = g x) → l.mapM f = l.mapM g := by
  intro l
  induction l with
  | nil => intro _; rfl
  | cons a l ih => intro h; simp [List.mapM_cons, h a (by simp), ih fun x hx => h x (by simp [hx])]
theorem flatMap_cong {α β : Type} {f g : α → List β} : ∀ {l : List α}, (∀ x ∈ l, f x = g x) → l.flatMap f = l.flatMap g := by
  intro l
  induction l with
  | nil => intro _; rfl
  | cons a l ih => intro h; simp [List.flatMap_cons, h a (by simp), ih fun x hx => h x (by simp [hx])]
end
end
end Go.AE

namespace Go.AE
noncomputable section
open Go.RowKit (Below)
section
variable {C : Cfg} {P : Program} {w : World}
abbrev rd (P : Program) (w : World) (q : Nat) : TypeId → List Value → Option (DataW Unit × List MemPlace) := DataW.trod (fun _ => ()) P w 0 (fun _ => true) false q
theorem row_mem {a : Addr} {k : Nat} (h : 0 < k) : MemPlace.cell a.block a.off ∈ MemPlace.row a k := by
  unfold MemPlace.row
  exact List.mem_map.2 ⟨0, by simp [h], by simp⟩
theorem lay_sound : ∀ (m q : Nat), ReadOk C w (lay P m) (rd P w q) := by
  intro m
  induction m with
  | zero => intro q t d n r h; simp [lay] at h
  | succ m ih =>
    intro q t d n r h cs ps hr hz
    cases q with
    | zero => simp [rd, DataW.trod] at hr
    | succ q =>
      have ihq := ih q
      simp only [lay] at h
      split at h
      · -- bool
        rename_i b hu
        simp at h; subst h
        match cs with
        | [] => simp [rd, DataW.trod, hu] at hr
        | _ :: _ :: _ => simp [rd, DataW.trod, hu] at hr
        | [c] =>
          cases c <;> simp [rd, DataW.trod, hu] at hr
          obtain ⟨rfl, rfl⟩ := hr
          exact .plain fun φ D => ⟨rfl, trivial, trivial⟩
      · -- int
        rename_i k' k i hu
        simp at h; subst h
        match cs with
        | [] => simp [rd, DataW.trod, hu] at hr
        | _ :: _ :: _ => simp [rd, DataW.trod, hu] at hr
        | [c] =>
          cases c <;> simp [rd, DataW.trod, hu] at hr
          obtain ⟨⟨rfl, _⟩, ⟨rfl, rfl⟩, rfl⟩ := hr
          exact .plain fun φ D => ⟨rfl, trivial, trivial⟩
      · -- string
        rename_i s hu
        simp at h; subst h
        match cs with
        | [] => simp [rd, DataW.trod, hu] at hr
        | _ :: _ :: _ => simp [rd, DataW.trod, hu] at hr
        | [c] =>
          cases c <;> simp [rd, DataW.trod, hu] at hr
          obtain ⟨_, rfl, rfl⟩ := hr
          refine .plain fun φ D => ⟨by simp only [concs, conc]; rw [bytesOf_toNat], ?_, trivial⟩
          intro x hx
          simp at hx
          obtain ⟨b, _, rfl⟩ := hx
          exact b.toNat_lt
      · -- nil pointer
        rename_i e hu
        simp at h; subst h
        match cs with
        | [] => simp [rd, DataW.trod, hu] at hr
        | _ :: _ :: _ => simp [rd, DataW.trod, hu] at hr
        | [c] =>
          cases c <;> simp [rd, DataW.trod, hu] at hr
          rename_i a
          cases a with
          | none => exact .plain fun φ D => ⟨rfl, trivial, trivial⟩
          | some a => simp [Option.bind_eq_some_iff] at hr
      · -- pointer
        rename_i e d hu
        split at h
        · rename_i l n1 os hl
          simp only [cnd_none, Bool.and_eq_true, Option.some.injEq] at h
          obtain ⟨⟨h1, h2⟩, rfl⟩ := h
          have h1 := Nat.eq_of_beq_eq_true h1
          have h2 := blt_lt h2
          match cs with
          | [] => simp [rd, DataW.trod, hu] at hr
          | _ :: _ :: _ => simp [rd, DataW.trod, hu] at hr
          | [c] =>
            cases c <;> simp [rd, DataW.trod, hu] at hr
            rename_i o
            cases o with
            | none => simp at hr
            | some a =>
              simp only [Option.bind_eq_some_iff, Function.comp, Option.map_eq_some_iff, Prod.mk.injEq, DataW.ptr.injEq] at hr
              obtain ⟨cs', hc, x, hx, rfl, rfl⟩ := hr
              obtain ⟨arr, ty, hb⟩ := hz a.block a.off (List.mem_append.2 (.inl (row_mem (by omega))))
              obtain ⟨g1, g2⟩ := cells_arr hb hc
              have hspot : a.spot = none := by
                unfold World.cells? at hc
                rw [if_pos (Nat.zero_le _)] at hc
                obtain ⟨k1, k2⟩ := mapM_some hc
                have := k2 0 0 cs'[0] (by rw [List.getElem?_range (by omega)]) (List.getElem?_eq_getElem (by omega))
                exact (cell_at (show w.cell? a = some _ from this)).1
              have hsub := ihq _ _ _ _ hl cs' x.2 hx (hz.of fun y hy => List.mem_append.2 (.inr hy))
              refine Lays.block ⟨a.block, a.off, 0⟩ hsub (old_row l) fun φ D hφ hD hcs hg => ⟨row_rel hb ?_ hg h2, ?_, hD⟩
              · simp only
                rw [h1, ← g1, hcs]
              · simp only [conc, hφ]
                obtain ⟨ab, ao, as⟩ := a
                have hspot : as = none := hspot
                subst hspot
                rfl
        · simp at h
      · -- nil slice
        rename_i e hu
        simp at h; subst h
        match cs with
        | [] => simp [rd, DataW.trod, hu] at hr
        | _ :: _ :: _ => simp [rd, DataW.trod, hu] at hr
        | [c] =>
          cases c <;> (try (simp [rd, DataW.trod, hu] at hr; done))
          rename_i a len cap
          cases a with
          | none =>
            simp only [rd, DataW.trod, hu] at hr
            split at hr <;> simp_all
            exact .plain fun φ D => ⟨rfl, trivial, trivial⟩
          | some a =>
            simp [rd, DataW.trod, hu, Option.bind_eq_some_iff] at hr
      · -- slice
        rename_i e es sp hu
        split at h
        · split at h
          · rename_i l n1 os hl
            simp only [cnd_none, Option.some.injEq] at h
            obtain ⟨h2, rfl⟩ := h
            have h2 := blt_lt h2
            match cs with
            | [] => simp [rd, DataW.trod, hu] at hr
            | _ :: _ :: _ => simp [rd, DataW.trod, hu] at hr
            | [c] =>
              cases c <;> (try (simp [rd, DataW.trod, hu] at hr; done))
              rename_i o len cap
              cases o with
              | none =>
                simp only [rd, DataW.trod, hu] at hr
                split at hr <;> simp_all
              | some a =>
                simp only [rd, DataW.trod, hu] at hr
                split at hr
                · rename_i hcap
                  simp only [Option.bind_eq_some_iff, Option.map_eq_some_iff, Prod.mk.injEq, DataW.slice.injEq, if_true] at hr
                  obtain ⟨elems, he, rest, hrest, ⟨e1, e2⟩, rfl⟩ := hr
                  have hrest0 : rest = [] := by simpa using e2
                  subst hrest0
                  obtain ⟨k1, _⟩ := mapM_some hrest
                  obtain ⟨k2, k3⟩ := mapM_some he
                  simp at k1 k2
                  have hcl : cap = len := by omega
                  subst hcl
                  have hlen : es.length = cap := by rw [← e1]; simp [k2]
                  simp only [List.length_nil, Nat.add_zero, List.append_nil] at hz
                  obtain ⟨s1, s2⟩ := layElems_sound (C := C) (w := w) ihq (e := e) (g := fun i => (w.cells? 0 (a.add (i * P.cellsOf e)) (P.cellsOf e)).getD []) es 0 (n + 1) _ hl elems
                    (by
                      rw [hlen, ← List.range_eq_range']
                      rw [← he]
                      have hall : ∀ i ∈ List.range cap, (w.cells? 0 (a.add (i * P.cellsOf e)) (P.cellsOf e)).isSome = true := by
                        intro i hi
                        have hi' : i < cap := by simpa using hi
                        have := k3 i i elems[i] (by simp [hi']) (List.getElem?_eq_getElem (by omega))
                        simp only [Option.bind_eq_some_iff] at this
                        obtain ⟨c0, q1, _⟩ := this
                        rw [q1]; rfl
                      exact mapM_cong fun i hi => by
                        have := hall i hi
                        cases hq : w.cells? 0 (a.add (i * P.cellsOf e)) (P.cellsOf e) with
                        | none => rw [hq] at this; cases this
                        | some c0 => simp)
                    e1 (hz.of fun y hy => List.mem_append.2 (.inr hy))
                  simp only at s2
                  have hpos : 0 < cap * P.cellsOf e := by rw [← hlen, ← s2]; exact h2
                  obtain ⟨arr, ty, hb⟩ := hz a.block a.off (List.mem_append.2 (.inl (row_mem (by rw [k2]; exact hpos))))
                  have hk : 0 < P.cellsOf e := Nat.pos_of_mul_pos_left hpos
                  have hc0 : 0 < cap := Nat.pos_of_mul_pos_right hpos
                  have hget : ∀ i, i < cap → ∃ c0, w.cells? 0 (a.add (i * P.cellsOf e)) (P.cellsOf e) = some c0 := by
                    intro i hi'
                    have := k3 i i elems[i] (by simp [hi']) (List.getElem?_eq_getElem (by omega))
                    simp only [Option.bind_eq_some_iff] at this
                    obtain ⟨c0, q1, _⟩ := this
                    exact ⟨c0, q1⟩
                  have hspot : a.spot = none := by
                    obtain ⟨c0, q1⟩ := hget 0 hc0
                    have hl0 := (cells_arr (a := a.add (0 * P.cellsOf e)) (by rw [add_block]; exact hb) q1).2
                    unfold World.cells? at q1
                    rw [if_pos (Nat.zero_le _)] at q1
                    obtain ⟨_, k2⟩ := mapM_some q1
                    have := k2 0 0 c0[0] (by rw [List.getElem?_range (by omega)]) (List.getElem?_eq_getElem (by omega))
                    have h0 : (a.add (0 * P.cellsOf e)).add 0 = a := by simp [Addr.add]
                    rw [h0] at this
                    exact (cell_at this).1
                  have hflat : (List.range' 0 es.length).flatMap (fun i => (w.cells? 0 (a.add (i * P.cellsOf e)) (P.cellsOf e)).getD []) = (arr.toList.drop a.off).take (cap * P.cellsOf e) := by
                    rw [hlen]
                    have : ∀ i ∈ List.range' 0 cap, (w.cells? 0 (a.add (i * P.cellsOf e)) (P.cellsOf e)).getD [] = ((arr.toList.drop a.off).drop (i * P.cellsOf e)).take (P.cellsOf e) := by
                      intro i hi
                      have hi' : i < cap := by simpa using hi
                      obtain ⟨c0, q1⟩ := hget i hi'
                      obtain ⟨g1, _⟩ := cells_arr (a := a.add (i * P.cellsOf e)) (by rw [add_block]; exact hb) q1
                      rw [q1, Option.getD_some, g1, add_off, List.drop_drop]
                    rw [flatMap_cong this, flat_rows, Nat.zero_mul, List.drop_zero]
                  rw [hflat] at s1
                  refine Lays.block ⟨a.block, a.off, 0⟩ s1 (old_row l) fun φ D hφ hD hcs hg => ⟨row_rel hb ?_ hg h2, ?_, hD⟩
                  · simp only
                    rw [s2, hlen]; exact hcs
                  · simp only [conc, hφ, hlen]
                    obtain ⟨ab, ao, as⟩ := a
                    have hspot : as = none := hspot
                    subst hspot
                    rfl
                · simp at hr
          · simp at h
        · simp at h
      · -- struct
        rename_i fs ds hu
        split at h
        · rename_i l n1 os hl
          simp only [cnd_none, Option.some.injEq] at h
          obtain ⟨h1, rfl⟩ := h
          have h1 := Nat.eq_of_beq_eq_true h1
          have hst : rd P w (q + 1) t cs = (if cs.length = P.cellsOf t then (fs.toList.mapM fun f => rd P w q f.type ((cs.drop f.offset).take (P.cellsOf f.type))).map fun xs => (.agg (xs.map (·.1)), xs.flatMap (·.2)) else none) := by
            simp only [rd]
            rw [DataW.trod_step]
            unfold DataW.trodStep
            rw [hu]
          rw [hst] at hr
          split at hr
          case isFalse => cases hr
          rename_i hlen
          simp only [Option.map_eq_some_iff, Prod.mk.injEq, DataW.agg.injEq] at hr
          obtain ⟨xs, hx, hd, rfl⟩ := hr
          have := layFields_sound (C := C) (w := w) ihq (cs := cs) fs.toList ds 0 n _ hl xs hx hd hz
          simp only [List.drop_zero] at this
          rw [List.take_of_length_le (by omega)] at this
          exact this
        · simp at h
      · -- array
        rename_i k e ds hu
        split at h
        · rename_i l n1 os hl
          simp only [cnd_none, Option.some.injEq] at h
          obtain ⟨h1, rfl⟩ := h
          have h1 := Nat.eq_of_beq_eq_true h1
          have hst : rd P w (q + 1) t cs = (if cs.length = P.cellsOf t then ((List.range k).mapM fun i => rd P w q e ((cs.drop (i * P.cellsOf e)).take (P.cellsOf e))).map fun xs => (.agg (xs.map (·.1)), xs.flatMap (·.2)) else none) := by
            simp only [rd]
            rw [DataW.trod_step]
            unfold DataW.trodStep
            rw [hu]
          rw [hst] at hr
          split at hr
          case isFalse => cases hr
          rename_i hlen
          simp only [Option.map_eq_some_iff, Prod.mk.injEq, DataW.agg.injEq] at hr
          obtain ⟨xs, hx, hd, rfl⟩ := hr
          have hdl : ds.length = k := by
            have := (mapM_some hx).1
            rw [← hd]; simpa using this
          obtain ⟨s1, s2⟩ := layElems_sound (C := C) (w := w) ihq (e := e) (g := fun i => (cs.drop (i * P.cellsOf e)).take (P.cellsOf e)) ds 0 n _ hl xs (by rw [hdl, ← List.range_eq_range']; exact hx) hd hz
          rw [flat_rows, Nat.zero_mul, List.drop_zero, List.take_of_length_le (by simp only at s2; omega)] at s1
          exact s1
        · simp at h
      · -- nil interface
        rename_i e hu
        simp at h; subst h
        match cs with
        | [] => simp [rd, DataW.trod, hu] at hr
        | _ :: _ :: _ => simp [rd, DataW.trod, hu] at hr
        | [c] =>
          cases c <;> simp [rd, DataW.trod, hu] at hr
          all_goals first
            | exact .plain fun φ D => ⟨rfl, trivial, trivial⟩
            | (split at hr <;> simp_all)
      · -- nil map
        rename_i k e hu
        simp at h; subst h
        match cs with
        | [] => simp [rd, DataW.trod, hu] at hr
        | _ :: _ :: _ => simp [rd, DataW.trod, hu] at hr
        | [c] =>
          cases c <;> simp [rd, DataW.trod, hu] at hr
          rename_i b
          cases b with
          | none => exact .plain fun φ D => ⟨rfl, trivial, trivial⟩
          | some b =>
            simp only at hr
            split at hr
            · split at hr
              · simp only [Option.bind_eq_some_iff] at hr
                obtain ⟨E, _, h3⟩ := hr
                split at h3 <;> simp at h3
              · cases hr
            · cases hr
      · -- map
        rename_i k e es hu
        simp only [cnd_none] at h
        obtain ⟨hp, h⟩ := h
        split at h
        · rename_i r1 n1 os hl
          simp at h; subst h
          match cs with
          | [] => simp [rd, DataW.trod, hu] at hr
          | _ :: _ :: _ => simp [rd, DataW.trod, hu] at hr
          | [c] =>
            cases c <;> (try (simp [rd, DataW.trod, hu] at hr; done))
            rename_i b
            cases b with
            | none => simp [rd, DataW.trod, hu] at hr
            | some b =>
              simp only [rd, DataW.trod, hu] at hr
              split at hr
              · rename_i ents clock hb
                split at hr
                · simp only [Option.bind_eq_some_iff] at hr
                  obtain ⟨E, hE, hr⟩ := hr
                  split at hr
                  · simp only [Option.some.injEq, Prod.mk.injEq, DataW.map.injEq] at hr
                    obtain ⟨hs, rfl⟩ := hr
                    obtain ⟨k1, k2⟩ := mapM_some hE
                    have hlenE : E.length = ents.toList.length := k1
                    have hZ0 : (ents.toList.zip E).map (·.2.1) = E.map (·.1) := by
                      have e9 : (fun x : MapEntry × ((Lit × DataW Unit) × List MemPlace) => x.2.1) = (fun y : (Lit × DataW Unit) × List MemPlace => y.1) ∘ Prod.snd := rfl
                      rw [e9, ← List.map_map, List.map_snd_zip (by omega)]
                    obtain ⟨Z, hZ1, hZ2⟩ := perm_map_ex (sorted_perm (E.map (·.1))).symm (ents.toList.zip E) hZ0
                    rw [hs] at hZ2
                    have hall : ∀ z ∈ Z, keyOf P k z.1.key = some z.2.1.1 ∧ z.1.val.formed P e = true ∧ rd P w q e z.1.val.cells.toList = some (z.2.1.2, z.2.2) ∧ Froz w z.2.2 := by
                      intro z hz1
                      have hz2 := hZ1.mem_iff.1 hz1
                      obtain ⟨i, hi⟩ := List.mem_iff_getElem?.1 hz2
                      rw [List.getElem?_zip_eq_some] at hi
                      have := k2 i _ _ hi.1 hi.2
                      simp only [Option.bind_eq_some_iff] at this
                      obtain ⟨key, q1, q2⟩ := this
                      split at q2
                      · rename_i hf
                        simp only [Option.map_eq_some_iff] at q2
                        obtain ⟨y, q3, q4⟩ := q2
                        rw [← q4]
                        refine ⟨q1, hf, q3, hz.of fun p hp => ?_⟩
                        refine List.mem_cons_of_mem _ (List.mem_flatMap.2 ⟨z.2, List.mem_of_getElem? hi.2, ?_⟩)
                        rw [← q4]; exact hp
                      · cases q2
                    obtain ⟨a1, a2, a0, f, a3⟩ := layEntries_sound (C := C) (w := w) ihq hp es (n + 1) _ hl Z hZ2 hall
                    have a1 : n + 1 ≤ n1 := a1
                    refine ⟨by simp only; omega, ?_, fun x => if x = n then ⟨b, 0, 0⟩ else f x, ?_⟩
                    · intro y hy
                      rcases List.mem_cons.1 hy with rfl | hy
                      · exact ⟨Nat.le_refl _, by simp only; omega, old_look _⟩
                      · obtain ⟨q1, q2, q3⟩ := a2 y hy
                        exact ⟨by omega, q2, q3⟩
                    · intro φ D hφ
                      have hn := hφ n (Nat.le_refl _) (by simp only; omega)
                      simp only [if_true] at hn
                      obtain ⟨c1, c2, c3⟩ := a3 φ D (fun x h1 h2 => by
                        have := hφ x (by omega) h2
                        have hne : x ≠ n := by omega
                        simp only [if_neg hne] at this
                        exact this)
                      refine ⟨by simp [concs, conc, hn.1], ⟨hn.2, trivial⟩, ?_⟩
                      intro y hy
                      rcases List.mem_cons.1 hy with rfl | hy
                      · simp only [hn.1]
                        have hperm : (Z.map (·.1)).Perm ents.toList := by
                          have := hZ1.map (·.1)
                          rwa [List.map_fst_zip (by omega)] at this
                        rw [c1] at hperm
                        obtain ⟨es', p1, p2⟩ := perm_map_ex hperm _ rfl
                        refine ⟨ents, clock, es', hb, p2.symm, ?_, ?_⟩
                        · have := p1.map (fun e => (e.1, e.2.1))
                          rwa [zip_pairs (Z := Z) _ Z a0] at this
                        · intro x hx
                          have hx' := p1.mem_iff.1 hx
                          have hm : (x.1, x.2.1) ∈ r1 := by
                            have := List.mem_map_of_mem (f := fun e : AV × AV × Nat => (e.1, e.2.1)) hx'
                            rwa [zip_pairs (Z := Z) _ Z a0] at this
                          exact c2 _ hm
                      · exact c3 y hy
                  · simp at hr
                · simp at hr
              · simp at hr
        · simp at h
      · simp at h
end
end
end Go.AE

namespace Go.AE
noncomputable section
open Go.RowKit (Below)
/-- the variables that are listed, laid one behind the other; what cannot be laid, is left unknown -/
def layVars (P : Program) : List (String × DataW Unit) → Nat → Nat × List (Nat × AObj)
  | [], n => (n, [])
  | (nm, d) :: r, n => match P.globalNamed nm with
    | some g => (match P.globals[g]? with
      | some gl => (match lay P 40 gl.type d n with
        | some (l, n1, os) => cnd (Nat.blt 0 l.length) (match layVars P r n1 with | (n2, os2) => (n2, (g, rowObj l) :: (os ++ os2))) (layVars P r n)
        | none => layVars P r n)
      | none => layVars P r n)
    | none => layVars P r n
def setAll : List (Nat × AObj) → Tr AObj → Tr AObj
  | [], T => T
  | (b, o) :: l, T => setAll l (T.set b (some o))
section
variable {C : Cfg} {P : Program} {w : World}
theorem setAll_get (b : Nat) (o : AObj) : ∀ (l : List (Nat × AObj)) (T : Tr AObj), (setAll l T).get b = some o → (b, o) ∈ l ∨ T.get b = some o := by
  intro l
  induction l with
  | nil => intro T h; exact .inr h
  | cons x l ih =>
    obtain ⟨b', o'⟩ := x
    intro T h
    rcases ih _ h with h | h
    · exact .inl (List.mem_cons_of_mem _ h)
    · rw [Tr.get_set] at h
      by_cases e : b' = b
      · subst e; simp at h; subst h; exact .inl (List.mem_cons_self ..)
      · simp [e] at h; exact .inr h
theorem var_cells {nm : String} {g : Nat} {cs : Array Value} (hg : P.globalNamed nm = some g) (h : w.var? P nm = some cs) : ∃ ty rg, w.heap[g]? = some (.cells cs ty rg) := by
  unfold World.var? at h
  rw [hg] at h
  simp only [Option.bind_some] at h
  split at h
  · rename_i c ty rg hb
    simp at h; subst h
    exact ⟨ty, rg, hb⟩
  · cases h
/-- the variables lie where the numbers say -/
def LaysV (C : Cfg) (w : World) (ng n : Nat) (r : Nat × List (Nat × AObj)) : Prop :=
  n ≤ r.1 ∧ (∀ x ∈ r.2, (x.1 < ng ∨ n ≤ x.1) ∧ (x.1 < ng ∨ x.1 < r.1) ∧ OldW x.2) ∧
    ∃ f : Nat → Pl, ∀ φ D, (∀ b, n ≤ b → b < r.1 → φ b = f b ∧ D b) → (∀ g, g < ng → φ g = ⟨g, 0, 0⟩ ∧ D g) → ∀ x ∈ r.2, ORel C φ D x.2 (φ x.1) w
theorem layVars_sound {ng : Nat} : ∀ (laid : List (String × DataW Unit)) (n : Nat) (ps : List MemPlace), P.globals.size = ng → DataW.LaidVars P w laid ps → Froz w ps → LaysV C w ng n (layVars P laid n) := by
  intro laid
  induction laid with
  | nil =>
    intro n ps _ _ _
    exact ⟨Nat.le_refl _, by simp [layVars], fun _ => default, fun φ D _ _ => by simp [layVars]⟩
  | cons a r ih =>
    obtain ⟨nm, d⟩ := a
    intro n ps hng hL hz
    obtain ⟨g, t, cs, fuel, p, q, hg, ht, hv, hd, hr, rfl⟩ := hL
    have hzr : Froz w q := hz.of fun y hy => List.mem_append.2 (.inr hy)
    have skip : layVars P ((nm, d) :: r) n = layVars P r n → LaysV C w ng n (layVars P ((nm, d) :: r) n) := fun e => by rw [e]; exact ih n q hng hr hzr
    simp only [Option.map_eq_some_iff] at ht
    obtain ⟨gl, hgl, rfl⟩ := ht
    have hglt : g < ng := by rw [← hng]; exact (Array.getElem?_eq_some_iff.1 hgl).1
    cases hl : lay P 40 gl.type d n with
    | none => exact skip (by simp [layVars, hg, hgl, hl])
    | some r1 =>
      obtain ⟨l, n1, os⟩ := r1
      by_cases hpos : 0 < l.length
      · have he : layVars P ((nm, d) :: r) n = ((layVars P r n1).1, (g, rowObj l) :: (os ++ (layVars P r n1).2)) := by
          have : Nat.blt 0 l.length = true := by simp [Nat.blt]; omega
          simp [layVars, hg, hgl, hl, this]
        obtain ⟨a1, a2, f1, a3⟩ := lay_sound (C := C) (w := w) 40 fuel _ _ _ _ hl cs.toList p hd (hz.of fun y hy => List.mem_append.2 (.inl (List.mem_append.2 (.inr hy))))
        obtain ⟨b1, b2, f2, b3⟩ := ih n1 q hng hr hzr
        have a1 : n ≤ n1 := a1
        rw [he]
        refine ⟨Nat.le_trans a1 b1, ?_, fun b => if b < n1 then f1 b else f2 b, ?_⟩
        · intro x hx
          rcases List.mem_cons.1 hx with rfl | hx
          · exact ⟨.inl hglt, .inl hglt, old_row l⟩
          · rcases List.mem_append.1 hx with q | q
            · obtain ⟨q1, q2, q3⟩ := a2 x q
              exact ⟨.inr q1, .inr (Nat.lt_of_lt_of_le q2 b1), q3⟩
            · obtain ⟨q1, q2, q3⟩ := b2 x q
              exact ⟨q1.imp id (fun h => Nat.le_trans a1 h), q2, q3⟩
        · intro φ D hφ hG
          obtain ⟨c1, c2, c3⟩ := a3 φ D (fun b h1 h2 => by
            have h2' : b < n1 := h2
            have := hφ b h1 (Nat.lt_of_lt_of_le h2 b1)
            simp only [if_pos h2'] at this
            exact this)
          have d3 := b3 φ D (fun b h1 h2 => by
            have h1' : ¬ b < n1 := Nat.not_lt.2 h1
            have := hφ b (Nat.le_trans a1 h1) h2
            simp only [if_neg h1'] at this
            exact this) hG
          intro x hx
          rcases List.mem_cons.1 hx with rfl | hx
          · obtain ⟨hφg, hDg⟩ := hG g hglt
            obtain ⟨ty, rg, hb⟩ := var_cells hg hv
            have hsz : cs.size = l.length := by
              have := congrArg List.length c1
              rw [concs_len] at this
              simpa using this
            obtain ⟨c', t', hb'⟩ := hz g 0 (List.mem_append.2 (.inl (List.mem_append.2 (.inl (by
              have := row_mem (a := ⟨g, 0, none⟩) (k := cs.size) (by omega)
              exact this)))))
            rw [hb] at hb'
            have hrg : rg = (0, 0) := by
              simp only [Option.some.injEq, Obj.cells.injEq] at hb'
              exact hb'.2.2
            rw [hrg] at hb
            simp only [hφg]
            refine row_rel (pl := ⟨g, 0, 0⟩) hb ?_ c2 hpos
            simp only [List.drop_zero]
            rw [List.take_of_length_le (by simp; omega)]
            exact c1
          · rcases List.mem_append.1 hx with q | q
            · exact c3 x q
            · exact d3 x q
      · exact skip (by
          have hz0 : l.length = 0 := by omega
          have : Nat.blt 0 l.length = false := by rw [hz0]; rfl
          simp [layVars, hg, hgl, hl, this])
/-- what the evaluator finds at the start, where the variables read as listed -/
theorem laid_hrel {laid : List (String × DataW Unit)} {n0 : Nat} {os : List (Nat × AObj)} {orc : Nat → List AV → Option AV} (h : laidMet P laid w) (hn : layVars P laid P.globals.size = (n0, os)) :
    ∃ φ D, HRel ⟨P, setAll os .nil, n0, orc, P.globals.size⟩ φ D .nil n0 w.heap.size w ∧ GInv ⟨P, setAll os .nil, n0, orc, P.globals.size⟩ φ D := by
  obtain ⟨ps, hL, _, hz⟩ := h
  have hz : Froz w ps := fun b off hb => (hz b off hb).1
  obtain ⟨a1, a2, f, a3⟩ := layVars_sound (C := ⟨P, setAll os .nil, n0, orc, P.globals.size⟩) laid P.globals.size ps rfl hL hz
  rw [hn] at a1 a2 a3
  simp only at a1 a2 a3
  have hobj : ∀ b o, hget ⟨P, setAll os .nil, n0, orc, P.globals.size⟩ .nil b = some o → (b, o) ∈ os ∧ b < n0 := by
    intro b o ho
    unfold hget at ho
    rw [cnd_ite] at ho
    split at ho
    · rename_i hb
      rcases setAll_get b o os .nil ho with q | q
      · exact ⟨q, blt_lt hb⟩
      · simp at q
    · simp at ho
  refine ⟨fun b => if b < P.globals.size then ⟨b, 0, 0⟩ else f b, fun b => b < n0, ⟨Nat.le_refl _, fun _ h => h, fun b o ho => (hobj b o ho).2, ?_, ?_, ?_, ?_⟩, ?_⟩
  · intro b o ho _
    have := a3 (fun b => if b < P.globals.size then ⟨b, 0, 0⟩ else f b) (fun b => b < n0) (fun b h1 h2 => ⟨by rw [if_neg (by omega)], h2⟩) (fun g hg => ⟨by rw [if_pos hg], by omega⟩) (b, o) (hobj b o ho).1
    exact this
  · intro b b' o o' _ _ d _ _ hb
    exact absurd d (Nat.not_lt.2 hb)
  · intro b o hb _ d
    exact absurd d (Nat.not_lt.2 hb)
  · intro b o ho _
    exact (a2 (b, o) (hobj b o ho).1).2.2 _ _
  · intro g hg
    have hg : g < P.globals.size := hg
    exact ⟨by omega, by simp [hg], by simp [hg]⟩
/-- the evaluator's start, with no call known -/
theorem Env.laid {laid : List (String × DataW Unit)} {n0 : Nat} {os : List (Nat × AObj)} (pf : PF P) (h : laidMet P laid w) (hn : layVars P laid P.globals.size = (n0, os)) :
    ∃ φ D, Env ⟨P, setAll os .nil, n0, fun _ _ => none, P.globals.size⟩ w φ D := by
  obtain ⟨φ, D, h1, h2⟩ := laid_hrel (orc := fun _ _ => none) h hn
  exact ⟨φ, D, pf, ⟨fun _ _ _ h => (by cases h), fun _ _ _ h => (by cases h)⟩, h1, h2⟩
end
end
end Go.AE

namespace Go.AE
noncomputable section
open Go.RowKit (Below)
def allBytes : List Nat → Bool
  | [] => true
  | x :: s => Nat.blt x 256 && allBytes s
def ixOf : List Nat → Nat → Nat → Int
  | [], _, _ => .negSucc 0
  | x :: s, c, i => cnd (Nat.beq x c) (.ofNat i) (ixOf s c (i + 1))
/-- internal/bytealg.IndexByteString, which has no body in Go -/
def orcIx (F : Nat) (f : Nat) (args : List AV) : Option AV :=
  cnd (Nat.beq f F) (match args with
    | [.str s, .int .u8 (.ofNat c)] => cnd (allBytes s && Nat.blt c 256) (some (.int .i64 (ixOf s c 0))) none
    | _ => none) none
section
variable {C : Cfg} {P : Program} {w : World}
theorem allBytes_all : ∀ {s : List Nat}, allBytes s = true → ∀ x ∈ s, x < 256 := by
  intro s
  induction s with
  | nil => intro _ x h; cases h
  | cons a s ih =>
    intro h x hx
    simp only [allBytes, Bool.and_eq_true] at h
    rcases List.mem_cons.1 hx with rfl | hx
    · exact blt_lt h.1
    · exact ih h.2 x hx
theorem ixOf_spec : ∀ (s : List Nat) (c i : Nat), (∀ x ∈ s, x < 256) → c < 256 → ixOf s c i = (if Lib.indexByte (s.map UInt8.ofNat) (UInt8.ofNat c) = -1 then -1 else Lib.indexByte (s.map UInt8.ofNat) (UInt8.ofNat c) + i) := by
  intro s
  induction s with
  | nil => intro c i _ _; simp [ixOf, Lib.indexByte]
  | cons a s ih =>
    intro c i hs hc
    have ha := hs a (List.mem_cons_self ..)
    have hi := ih c (i + 1) (fun x hx => hs x (List.mem_cons_of_mem _ hx)) hc
    simp only [ixOf, List.map_cons, Lib.indexByte, cnd_beq]
    by_cases e : a = c
    · subst e; simp
    · have hne : (UInt8.ofNat a == UInt8.ofNat c) = false := by
        rw [beq_eq_false_iff_ne]
        intro q
        have := congrArg UInt8.toNat q
        simp at this
        rw [Nat.mod_eq_of_lt ha, Nat.mod_eq_of_lt hc] at this
        exact e this
      rw [if_neg e, hi, hne]
      have hge := Lib.indexByte_ge (s.map UInt8.ofNat) (UInt8.ofNat c)
      by_cases q : Lib.indexByte (s.map UInt8.ofNat) (UInt8.ofNat c) = -1
      · simp [q]
      · simp only [q, if_false]
        have : ¬ (Lib.indexByte (s.map UInt8.ofNat) (UInt8.ofNat c) + 1 = -1) := by omega
        simp [q, this]
        omega
theorem orcIx_some {F f : Nat} {args : List AV} {v : AV} (h : orcIx F f args = some v) : f = F ∧ ∃ s c, args = [.str s, .int .u8 (.ofNat c)] ∧ v = .int .i64 (ixOf s c 0) ∧ (∀ x ∈ s, x < 256) ∧ c < 256 := by
  unfold orcIx at h
  rw [cnd_beq] at h
  split at h
  · rename_i e
    split at h
    · rename_i s c
      simp only [cnd_none, Bool.and_eq_true, Option.some.injEq] at h
      exact ⟨e, s, c, rfl, h.2.symm, allBytes_all h.1.1, blt_lt h.1.2⟩
    · simp at h
  · simp at h
theorem orcIx_run {F : Nat} {fn : Func} (hf : P.funcs[F]? = some fn) (hn : (fn.name == "runtime.NumGoroutine") = false) (hb : fn.body = none) (h1 : Extern.findNext fn = none) (h2 : Extern.find fn = some Extern.BytealgIndexByte.indexByte)
    {f : Nat} {args : List AV} {v : AV} (h : orcIx F f args = some v) (φ : Phi) (w : World) : (callFunc f (concs φ args).toArray).run P w = .ok (.value (conc φ v)) w := by
  obtain ⟨rfl, s, c, rfl, rfl, hs, hc⟩ := orcIx_some h
  have hrun := Lib.run_indexByteString (P := P) (bytesOf s) (Int.ofNat c) w
  have e : Lib.indexByte (bytesOf s).data.toList (Int.ofNat c).toNat.toUInt8 = ixOf s c 0 := by
    rw [ixOf_spec s c 0 hs hc]
    have : (bytesOf s).data.toList = s.map UInt8.ofNat := by simp [bytesOf]
    rw [this]
    have hge := Lib.indexByte_ge (s.map UInt8.ofNat) (UInt8.ofNat c)
    show Lib.indexByte (s.map UInt8.ofNat) (UInt8.ofNat c) = _
    split
    · rename_i q; exact q
    · simp
  rw [e] at hrun
  have hcs : (concs φ [.str s, .int .u8 (.ofNat c)]).toArray = #[.string (bytesOf s), .int .u8 (Int.ofNat c)] := rfl
  rw [hcs]
  have hn' : ¬ fn.name = "runtime.NumGoroutine" := by simpa using hn
  simp only [callFunc, Sem.run_bind]
  simp [hf, hn', hb, h1, h2, conc]
  exact congrArg (fun r => Result.andThen r (fun a w' => Result.ok (Next.value a) w')) hrun
/-- the evaluator's start, where the variables read as listed, with IndexByteString known -/
theorem Env.laidIx {laid : List (String × DataW Unit)} {F : Nat} {fn : Func} (pf : PF P) (hf : P.funcs[F]? = some fn) (hn : (fn.name == "runtime.NumGoroutine") = false) (hb : fn.body = none) (h1 : Extern.findNext fn = none) (h2 : Extern.find fn = some Extern.BytealgIndexByte.indexByte)
    (h : laidMet P laid w) : ∃ φ D, Env ⟨P, setAll (layVars P laid P.globals.size).2 .nil, (layVars P laid P.globals.size).1, orcIx F, P.globals.size⟩ w φ D := by
  obtain ⟨φ, D, h3, h4⟩ := laid_hrel (orc := orcIx F) h rfl
  refine ⟨φ, D, pf, ⟨fun f args v ho => ?_, fun f args v ho φ w _ => .inl (orcIx_run hf hn hb h1 h2 ho φ w)⟩, h3, h4⟩
  obtain ⟨rfl, s, c, rfl, rfl, hs, hc⟩ := orcIx_some ho
  exact ⟨⟨fun _ _ => rfl, fun _ => trivial⟩, fun _ _ => rfl, fun _ => ⟨hs, trivial, trivial⟩⟩
end
end
end Go.AE

namespace Go.AE
noncomputable section
open Go.RowKit (Below)
mutual
def plainV : AV → Bool
  | .bool _ => true
  | .int _ _ => true
  | .str s => allBytes s
  | .nilptr => true
  | .nilslice => true
  | .nilmap => true
  | .nilFunc => true
  | .nilIface => true
  | .iface _ v => plainV v
  | .agg l => plainVs l
  | .tuple l => plainVs l
  | _ => false
def plainVs : List AV → Bool
  | [] => true
  | v :: l => plainV v && plainVs l
end
mutual
theorem plainV_good : ∀ v, plainV v = true → good (fun _ => False) v
  | .bool _, _ => trivial
  | .int _ _, _ => trivial
  | .str s, h => allBytes_all (by simpa [plainV] using h)
  | .nilptr, _ => trivial
  | .nilslice, _ => trivial
  | .nilmap, _ => trivial
  | .nilFunc, _ => trivial
  | .nilIface, _ => trivial
  | .iface _ v, h => by
    have := plainV_good v (by simpa [plainV] using h)
    simpa [good] using this
  | .agg l, h => plainVs_good l (by simpa [plainV] using h)
  | .tuple l, h => plainVs_good l (by simpa [plainV] using h)
  | .ptr _ _, h => by simp [plainV] at h
  | .slice .., h => by simp [plainV] at h
  | .sliceU .., h => by simp [plainV] at h
  | .map _, h => by simp [plainV] at h
  | .func .., h => by simp [plainV] at h
theorem plainVs_good : ∀ l, plainVs l = true → goods (fun _ => False) l
  | [], _ => trivial
  | v :: l, h => by
    simp only [plainVs, Bool.and_eq_true] at h
    exact ⟨plainV_good v h.1, plainVs_good l h.2⟩
end
theorem plainV_ok {v : AV} (h : plainV v = true) : (∀ φ ψ, conc φ v = conc ψ v) ∧ ∀ D, good D v :=
  ⟨fun _ _ => conc_keep (fun _ h => h.elim) (plainV_good v h), fun _ => good_mono (fun _ h => h.elim) v (plainV_good v h)⟩
theorem plainVs_ok {l : List AV} (h : plainVs l = true) : (∀ φ ψ, concs φ l = concs ψ l) ∧ ∀ D, goods D l :=
  ⟨fun _ _ => concs_keep (fun _ h => h.elim) (plainVs_good l h), fun _ => goods_mono (fun _ h => h.elim) l (plainVs_good l h)⟩
theorem plain_same {a b : AV} (h : plainEq a b = true) : a = b := by
  unfold plainEq at h
  split at h
  · simp only [boolEq_eq, beq_iff_eq] at h; rw [h]
  · simp only [Bool.and_eq_true, kindEq_eq, intEq_eq, decide_eq_true_eq] at h; rw [h.1, h.2]
  · rw [(natsEq_iff _ _).1 h]
  · rfl
  · rfl
  · rfl
  · cases h
theorem plains_same : ∀ {a b : List AV}, plainsEq a b = true → a = b := by
  intro a
  induction a with
  | nil => intro b h; cases b <;> simp [plainsEq] at h; rfl
  | cons x a ih =>
    intro b h
    cases b with
    | nil => simp [plainsEq] at h
    | cons y b =>
      simp only [plainsEq, Bool.and_eq_true] at h
      rw [plain_same h.1, ih h.2]
/-- structs of plain values, too -/
def deepEq (x y : AV) : Bool := match x, y with
  | .agg a, .agg b => plainsEq a b
  | x, y => plainEq x y
theorem deep_same {a b : AV} (h : deepEq a b = true) : a = b := by
  unfold deepEq at h
  split at h
  · rw [plains_same h]
  · exact plain_same h
def deepsEq : List AV → List AV → Bool
  | [], [] => true
  | a :: x, b :: y => deepEq a b && deepsEq x y
  | _, _ => false
theorem deeps_same : ∀ {a b : List AV}, deepsEq a b = true → a = b := by
  intro a
  induction a with
  | nil => intro b h; cases b <;> simp [deepsEq] at h; rfl
  | cons x a ih =>
    intro b h
    cases b with
    | nil => simp [deepsEq] at h
    | cons y b =>
      simp only [deepsEq, Bool.and_eq_true] at h
      rw [deep_same h.1, ih h.2]
def knownD (f : Nat) (args : List AV) : List (Nat × List AV × AV) → Option AV
  | [] => none
  | (g, as, v) :: l => cnd (Nat.beq f g) (cnd (deepsEq args as) (some v) <| knownD f args l) (knownD f args l)
theorem known_mem {f : Nat} {args : List AV} {v : AV} : ∀ {l : List (Nat × List AV × AV)}, knownD f args l = some v → (f, args, v) ∈ l := by
  intro l
  induction l with
  | nil => intro h; simp [knownD] at h
  | cons x l ih =>
    obtain ⟨g, as, u⟩ := x
    intro h
    simp only [knownD] at h
    rw [cnd_ite] at h
    split at h
    · rename_i q
      rw [cnd_ite] at h
      split at h
      · rename_i q2
        simp at h; subst h
        rw [Nat.eq_of_beq_eq_true q, deeps_same q2]
        exact List.mem_cons_self ..
      · exact List.mem_cons_of_mem _ (ih h)
    · exact List.mem_cons_of_mem _ (ih h)
/-- an oracle, and calls that have been played beside it -/
def orcTab (o : Nat → List AV → Option AV) (l : List (Nat × List AV × AV)) (f : Nat) (args : List AV) : Option AV :=
  match knownD f args l with | some v => some v | none => o f args
def tabOk : List (Nat × List AV × AV) → Bool
  | [] => true
  | x :: l => (plainVs x.2.1 && plainV x.2.2) && tabOk l
theorem tabOk_mem : ∀ {l : List (Nat × List AV × AV)}, tabOk l = true → ∀ x ∈ l, plainVs x.2.1 = true ∧ plainV x.2.2 = true := by
  intro l
  induction l with
  | nil => intro _ x h; cases h
  | cons a l ih =>
    intro h x hx
    simp only [tabOk, Bool.and_eq_true] at h
    rcases List.mem_cons.1 hx with rfl | hx
    · exact h.1
    · exact ih h.2 x hx
section
variable {P : Program} {w : World}
theorem enterK_body {ih : KT} {C : Cfg} {f : Nat} {args : List AV} {b : Bool} {cs : List AFrame} {S : Tr AObj} {nx : Nat} {v : AV} (h : enterK ih C f args b cs S nx = some v) : ∃ fn c, C.P.funcs[f]? = some fn ∧ fn.body = some c := by
  unfold enterK at h
  split at h
  · rename_i fn hf
    split at h
    · rename_i c hc; exact ⟨fn, c, hf, hc⟩
    · simp at h
  · simp at h
/-- more calls are known: those of a table, each of them played with what was known before -/
theorem orcTab_ok {G : Tr AObj} {n0 ng : Nat} {o : Nat → List AV → Option AV} {φ0 : Phi} {D0 : Nat → Prop} {l : List (Nat × List AV × AV)} (env : Env ⟨P, G, n0, o, ng⟩ w φ0 D0) (ht : tabOk l = true)
    (hall : ∀ x ∈ l, ∃ m, runCall ⟨P, G, n0, o, ng⟩ m x.1 x.2.1 = some x.2.2) : OrcOK ⟨P, G, n0, orcTab o l, ng⟩ w := by
  refine ⟨fun f args v ho => ?_, fun f args v ho φ w2 hb => ?_⟩
  · have ho : orcTab o l f args = some v := ho
    unfold orcTab at ho
    split at ho
    · rename_i u hu
      simp at ho; subst ho
      obtain ⟨h1, h2⟩ := tabOk_mem ht _ (known_mem hu)
      exact ⟨plainV_ok h2, plainVs_ok h1⟩
    · exact env.orc.val f args v ho
  · have ho : orcTab o l f args = some v := ho
    unfold orcTab at ho
    split at ho
    · rename_i u hu
      simp at ho; subst ho
      have hm := known_mem hu
      obtain ⟨h1, h2⟩ := tabOk_mem ht _ hm
      obtain ⟨m, hrun⟩ := hall _ hm
      obtain ⟨fn, c, hf, hc⟩ := enterK_body hrun
      right
      have hn : fn.name ≠ "runtime.NumGoroutine" := by simpa using env.pf.num f fn hf (by simp [hc])
      refine ⟨?_, ?_⟩
      · have hf' : P.funcs[f]? = some fn := hf
        simp [callFunc, hf', hn, hc]
      · have henv := env.later hb
        have := runCall_sound henv (f := f) (args := args) ((plainVs_ok h1).2 D0) hrun
        rw [(plainVs_ok h1).1 φ φ0]
        exact this.mono fun e w' ⟨⟨ψ, he⟩, hb'⟩ => ⟨by rw [he, (plainV_ok h2).1 ψ φ], hb'⟩
    · exact env.orc.ok f args v ho φ w2 hb
/-- the evaluator's start, with IndexByteString and the calls of a table known -/
theorem Env.laidTab {laid : List (String × DataW Unit)} {o : Nat → List AV → Option AV} {l : List (Nat × List AV × AV)} (h : laidMet P laid w) {φ0 : Phi} {D0 : Nat → Prop}
    (env : Env ⟨P, setAll (layVars P laid P.globals.size).2 .nil, (layVars P laid P.globals.size).1, o, P.globals.size⟩ w φ0 D0) (ht : tabOk l = true)
    (hall : ∀ x ∈ l, ∃ m, runCall ⟨P, setAll (layVars P laid P.globals.size).2 .nil, (layVars P laid P.globals.size).1, o, P.globals.size⟩ m x.1 x.2.1 = some x.2.2) :
    ∃ φ D, Env ⟨P, setAll (layVars P laid P.globals.size).2 .nil, (layVars P laid P.globals.size).1, orcTab o l, P.globals.size⟩ w φ D := by
  obtain ⟨φ, D, h3, h4⟩ := laid_hrel (orc := orcTab o l) h rfl
  exact ⟨φ, D, env.pf, orcTab_ok env ht hall, h3, h4⟩
/-- each call of a table, played -/
def tabPlays (C : Cfg) (m : Nat) : List (Nat × List AV × AV) → Bool
  | [] => true
  | x :: l => (match runCall C m x.1 x.2.1 with | some v => AV.same 30 v x.2.2 | none => false) && tabPlays C m l
theorem tabPlays_mem {C : Cfg} {m : Nat} : ∀ {l : List (Nat × List AV × AV)}, tabPlays C m l = true → ∀ x ∈ l, ∃ m, runCall C m x.1 x.2.1 = some x.2.2 := by
  intro l
  induction l with
  | nil => intro _ x h; cases h
  | cons a l ih =>
    intro h x hx
    simp only [tabPlays, Bool.and_eq_true] at h
    rcases List.mem_cons.1 hx with rfl | hx
    · obtain ⟨h1, _⟩ := h
      split at h1
      · rename_i v hv
        exact ⟨m, by rw [hv, same_eq _ _ _ h1]⟩
      · cases h1
    · exact ih h.2 x hx
theorem tabPlays_app {C : Cfg} {l1 l2 : List (Nat × List AV × AV)} (h1 : ∀ x ∈ l1, ∃ m, runCall C m x.1 x.2.1 = some x.2.2) (h2 : ∀ x ∈ l2, ∃ m, runCall C m x.1 x.2.1 = some x.2.2) : ∀ x ∈ l1 ++ l2, ∃ m, runCall C m x.1 x.2.1 = some x.2.2 := by
  intro x hx
  rcases List.mem_append.1 hx with h | h
  · exact h1 x h
  · exact h2 x h
end
end
end Go.AE

namespace Go.AE
noncomputable section
open Go.RowKit (Below)
def assocS : List (String × Nat) → String → Option Nat
  | [], _ => none
  | (a, u) :: l, s => cnd (a == s) (some u) (assocS l s)
/-- a variable's value; an interface that holds a pointer to a type of a known name -/
def layTop (P : Program) (nm : List (String × Nat)) (t : Nat) (d : DataW Unit) (n : Nat) : LR := match P.underlying t, d with
  | some (.interface _), .iface s (.ptr d') => (match assocS nm s with
    | some u => (match P.underlying u with
      | some (.pointer _) => (match lay P 39 u (.ptr d') n with
        | some ([x], n1, os) => some ([.iface u x], n1, os)
        | _ => none)
      | _ => none)
    | none => none)
  | _, _ => lay P 40 t d n
def layVarsN (P : Program) (nm : List (String × Nat)) : List (String × DataW Unit) → Nat → Nat × List (Nat × AObj)
  | [], n => (n, [])
  | (v, d) :: r, n => match P.globalNamed v with
    | some g => (match P.globals[g]? with
      | some gl => (match layTop P nm gl.type d n with
        | some (l, n1, os) => cnd (Nat.blt 0 l.length) (match layVarsN P nm r n1 with | (n2, os2) => (n2, (g, rowObj l) :: (os ++ os2))) (layVarsN P nm r n)
        | none => layVarsN P nm r n)
      | none => layVarsN P nm r n)
    | none => layVarsN P nm r n
/-- each name is one type's -/
def NamesOne (P : Program) (nm : List (String × Nat)) : Prop := ∀ x ∈ nm, ∀ u, P.typeName? 3 u = some x.1 → u = x.2
section
variable {C : Cfg} {P : Program} {w : World}
theorem assocS_mem {s : String} {u : Nat} : ∀ {l : List (String × Nat)}, assocS l s = some u → (s, u) ∈ l := by
  intro l
  induction l with
  | nil => intro h; simp [assocS] at h
  | cons x l ih =>
    obtain ⟨a, b⟩ := x
    intro h
    simp only [assocS] at h
    rw [cnd_ite] at h
    split at h
    · rename_i q
      simp at h q; subst h; subst q
      exact List.mem_cons_self ..
    · exact List.mem_cons_of_mem _ (ih h)
theorem layTop_sound {nm : List (String × Nat)} (hnm : NamesOne P nm) {t : Nat} {d : DataW Unit} {n : Nat} {r : List AV × Nat × List (Nat × AObj)} (h : layTop P nm t d n = some r) {q : Nat} {cs : List Value} {ps : List MemPlace} (hr : rd P w q t cs = some (d, ps)) (hz : Froz w ps)
    (hok : ∀ u v, cs = [.iface u v] → Value.okWide P w .any 0 u v) : Lays C w n cs r := by
  unfold layTop at h
  split at h
  · rename_i ms s d' hi
    split at h
    · rename_i u hu
      split at h
      · rename_i e hp
        split at h
        · rename_i x n1 os hl
          simp at h; subst h
          obtain ⟨f1, u', v, rfl, hn, h1⟩ := iface_of_trod hi hr
          obtain rfl := hnm _ (assocS_mem hu) u' hn
          obtain ⟨f2, a, cs', q', hv, _, _, _⟩ := ptr_of_trod hp h1
          have ok := hok _ _ rfl
          have hv' : v = .pointer (some a) := by
            unfold Value.okWide at ok
            simp only [hp] at ok
            unfold Cell.okWide at ok
            cases v <;> simp [Value.cells, Cell.ok, hp] at ok hv
            subst hv
            rfl
          have hL := lay_sound (C := C) (w := w) 39 f1 _ _ _ _ hl _ _ h1 hz
          obtain ⟨a1, a2, f, a3⟩ := hL
          refine ⟨a1, a2, f, fun φ D hφ => ?_⟩
          obtain ⟨c1, c2, c3⟩ := a3 φ D hφ
          refine ⟨?_, ⟨c2.1, trivial⟩, c3⟩
          subst hv'
          have e : Value.pointer (some a) = conc φ x := by
            simp [Value.cells, concs] at c1
            exact c1
          simp only [concs, conc, e]
        · simp at h
      · simp at h
    · simp at h
  · exact lay_sound (C := C) (w := w) 40 q _ _ _ _ h cs ps hr hz
theorem layVarsN_sound {nm : List (String × Nat)} (hnm : NamesOne P nm) {ng : Nat} : ∀ (laid : List (String × DataW Unit)) (n : Nat) (ps : List MemPlace), P.globals.size = ng → DataW.LaidVars P w laid ps → Froz w ps →
    (∀ b off, MemPlace.cell b off ∈ ps → ∀ u v, w.cell? ⟨b, off, none⟩ = some (.iface u v) → Value.okWide P w .any 0 u v) → LaysV C w ng n (layVarsN P nm laid n) := by
  intro laid
  induction laid with
  | nil =>
    intro n ps _ _ _ _
    exact ⟨Nat.le_refl _, by simp [layVarsN], fun _ => default, fun φ D _ _ => by simp [layVarsN]⟩
  | cons a r ih =>
    obtain ⟨v0, d⟩ := a
    intro n ps hng hL hz hif
    obtain ⟨g, t, cs, fuel, p, q, hg, ht, hv, hd, hr, rfl⟩ := hL
    have hzr : Froz w q := hz.of fun y hy => List.mem_append.2 (.inr hy)
    have hifr : ∀ b off, MemPlace.cell b off ∈ q → ∀ u v, w.cell? ⟨b, off, none⟩ = some (.iface u v) → Value.okWide P w .any 0 u v := fun b off hb => hif b off (List.mem_append.2 (.inr hb))
    have skip : layVarsN P nm ((v0, d) :: r) n = layVarsN P nm r n → LaysV C w ng n (layVarsN P nm ((v0, d) :: r) n) := fun e => by rw [e]; exact ih n q hng hr hzr hifr
    simp only [Option.map_eq_some_iff] at ht
    obtain ⟨gl, hgl, rfl⟩ := ht
    have hglt : g < ng := by rw [← hng]; exact (Array.getElem?_eq_some_iff.1 hgl).1
    have hok : ∀ u v, cs.toList = [.iface u v] → Value.okWide P w .any 0 u v := by
      intro u v hcs
      obtain ⟨ty, rg, hb⟩ := var_cells hg hv
      have hsz : cs.size = 1 := by have := congrArg List.length hcs; simpa using this
      refine hif g 0 (List.mem_append.2 (.inl (List.mem_append.2 (.inl (row_mem (a := ⟨g, 0, none⟩) (k := cs.size) (by omega)))))) u v ?_
      have h0 : cs[0]? = some (.iface u v) := by rw [← Array.getElem?_toList, hcs]; rfl
      simp [World.cell?, hb, h0]
    cases hl : layTop P nm gl.type d n with
    | none => exact skip (by simp [layVarsN, hg, hgl, hl])
    | some r1 =>
      obtain ⟨l, n1, os⟩ := r1
      by_cases hpos : 0 < l.length
      · have he : layVarsN P nm ((v0, d) :: r) n = ((layVarsN P nm r n1).1, (g, rowObj l) :: (os ++ (layVarsN P nm r n1).2)) := by
          have : Nat.blt 0 l.length = true := by simp [Nat.blt]; omega
          simp [layVarsN, hg, hgl, hl, this]
        obtain ⟨a1, a2, f1, a3⟩ := layTop_sound (C := C) (w := w) hnm hl (cs := cs.toList) (ps := p) hd (hz.of fun y hy => List.mem_append.2 (.inl (List.mem_append.2 (.inr hy)))) hok
        obtain ⟨b1, b2, f2, b3⟩ := ih n1 q hng hr hzr hifr
        have a1 : n ≤ n1 := a1
        rw [he]
        refine ⟨Nat.le_trans a1 b1, ?_, fun b => if b < n1 then f1 b else f2 b, ?_⟩
        · intro x hx
          rcases List.mem_cons.1 hx with rfl | hx
          · exact ⟨.inl hglt, .inl hglt, old_row l⟩
          · rcases List.mem_append.1 hx with q | q
            · obtain ⟨q1, q2, q3⟩ := a2 x q
              exact ⟨.inr q1, .inr (Nat.lt_of_lt_of_le q2 b1), q3⟩
            · obtain ⟨q1, q2, q3⟩ := b2 x q
              exact ⟨q1.imp id (fun h => Nat.le_trans a1 h), q2, q3⟩
        · intro φ D hφ hG
          obtain ⟨c1, c2, c3⟩ := a3 φ D (fun b h1 h2 => by
            have h2' : b < n1 := h2
            have := hφ b h1 (Nat.lt_of_lt_of_le h2 b1)
            simp only [if_pos h2'] at this
            exact this)
          have d3 := b3 φ D (fun b h1 h2 => by
            have h1' : ¬ b < n1 := Nat.not_lt.2 h1
            have := hφ b (Nat.le_trans a1 h1) h2
            simp only [if_neg h1'] at this
            exact this) hG
          intro x hx
          rcases List.mem_cons.1 hx with rfl | hx
          · obtain ⟨hφg, hDg⟩ := hG g hglt
            obtain ⟨ty, rg, hb⟩ := var_cells hg hv
            have hsz : cs.size = l.length := by
              have := congrArg List.length c1
              rw [concs_len] at this
              simpa using this
            obtain ⟨c', t', hb'⟩ := hz g 0 (List.mem_append.2 (.inl (List.mem_append.2 (.inl (row_mem (a := ⟨g, 0, none⟩) (k := cs.size) (by omega))))))
            rw [hb] at hb'
            have hrg : rg = (0, 0) := by
              simp only [Option.some.injEq, Obj.cells.injEq] at hb'
              exact hb'.2.2
            rw [hrg] at hb
            simp only [hφg]
            refine row_rel (pl := ⟨g, 0, 0⟩) hb ?_ c2 hpos
            simp only [List.drop_zero]
            rw [List.take_of_length_le (by simp; omega)]
            exact c1
          · rcases List.mem_append.1 hx with q | q
            · exact c3 x q
            · exact d3 x q
      · exact skip (by
          have hz0 : l.length = 0 := by omega
          have : Nat.blt 0 l.length = false := by rw [hz0]; rfl
          simp [layVarsN, hg, hgl, hl, this])
/-- what the evaluator finds at the start, where the variables read as listed -/
theorem laid_hrelN {nm : List (String × Nat)} (hnm : NamesOne P nm) {laid : List (String × DataW Unit)} {orc : Nat → List AV → Option AV} (h : laidMet P laid w) :
    ∃ φ D, HRel ⟨P, setAll (layVarsN P nm laid P.globals.size).2 .nil, (layVarsN P nm laid P.globals.size).1, orc, P.globals.size⟩ φ D .nil (layVarsN P nm laid P.globals.size).1 w.heap.size w ∧
      GInv ⟨P, setAll (layVarsN P nm laid P.globals.size).2 .nil, (layVarsN P nm laid P.globals.size).1, orc, P.globals.size⟩ φ D := by
  obtain ⟨ps, hL, _, hz0⟩ := h
  have hz : Froz w ps := fun b off hb => (hz0 b off hb).1
  obtain ⟨a1, a2, f, a3⟩ := layVarsN_sound (C := ⟨P, setAll (layVarsN P nm laid P.globals.size).2 .nil, (layVarsN P nm laid P.globals.size).1, orc, P.globals.size⟩) hnm laid P.globals.size ps rfl hL hz (fun b off hb => (hz0 b off hb).2)
  generalize hn : layVarsN P nm laid P.globals.size = r at a1 a2 a3 ⊢
  obtain ⟨n0, os⟩ := r
  simp only at a1 a2 a3 ⊢
  have hobj : ∀ b o, hget ⟨P, setAll os .nil, n0, orc, P.globals.size⟩ .nil b = some o → (b, o) ∈ os ∧ b < n0 := by
    intro b o ho
    unfold hget at ho
    rw [cnd_ite] at ho
    split at ho
    · rename_i hb
      rcases setAll_get b o os .nil ho with q | q
      · exact ⟨q, blt_lt hb⟩
      · simp at q
    · simp at ho
  refine ⟨fun b => if b < P.globals.size then ⟨b, 0, 0⟩ else f b, fun b => b < n0, ⟨Nat.le_refl _, fun _ h => h, fun b o ho => (hobj b o ho).2, ?_, ?_, ?_, ?_⟩, ?_⟩
  · intro b o ho _
    have := a3 (fun b => if b < P.globals.size then ⟨b, 0, 0⟩ else f b) (fun b => b < n0) (fun b h1 h2 => ⟨by rw [if_neg (by omega)], h2⟩) (fun g hg => ⟨by rw [if_pos hg], by omega⟩) (b, o) (hobj b o ho).1
    exact this
  · intro b b' o o' _ _ d _ _ hb
    exact absurd d (Nat.not_lt.2 hb)
  · intro b o hb _ d
    exact absurd d (Nat.not_lt.2 hb)
  · intro b o ho _
    exact (a2 (b, o) (hobj b o ho).1).2.2 _ _
  · intro g hg
    have hg : g < P.globals.size := hg
    exact ⟨by omega, by simp [hg], by simp [hg]⟩
/-- the evaluator's start, with IndexByteString known -/
theorem Env.laidIxN {nm : List (String × Nat)} (hnm : NamesOne P nm) {laid : List (String × DataW Unit)} {F : Nat} {fn : Func} (pf : PF P) (hf : P.funcs[F]? = some fn) (hn : (fn.name == "runtime.NumGoroutine") = false) (hb : fn.body = none) (h1 : Extern.findNext fn = none)
    (h2 : Extern.find fn = some Extern.BytealgIndexByte.indexByte) (h : laidMet P laid w) :
    ∃ φ D, Env ⟨P, setAll (layVarsN P nm laid P.globals.size).2 .nil, (layVarsN P nm laid P.globals.size).1, orcIx F, P.globals.size⟩ w φ D := by
  obtain ⟨φ, D, h3, h4⟩ := laid_hrelN (orc := orcIx F) hnm h
  refine ⟨φ, D, pf, ⟨fun f args v ho => ?_, fun f args v ho φ w _ => .inl (orcIx_run hf hn hb h1 h2 ho φ w)⟩, h3, h4⟩
  obtain ⟨rfl, s, c, rfl, rfl, hs, hc⟩ := orcIx_some ho
  exact ⟨⟨fun _ _ => rfl, fun _ => trivial⟩, fun _ _ => rfl, fun _ => ⟨hs, trivial, trivial⟩⟩
/-- the evaluator's start, with the calls of a table known besides -/
theorem Env.laidTabN {nm : List (String × Nat)} (hnm : NamesOne P nm) {laid : List (String × DataW Unit)} {o : Nat → List AV → Option AV} {l : List (Nat × List AV × AV)} (h : laidMet P laid w) {φ0 : Phi} {D0 : Nat → Prop}
    (env : Env ⟨P, setAll (layVarsN P nm laid P.globals.size).2 .nil, (layVarsN P nm laid P.globals.size).1, o, P.globals.size⟩ w φ0 D0) (ht : tabOk l = true)
    (hall : ∀ x ∈ l, ∃ m, runCall ⟨P, setAll (layVarsN P nm laid P.globals.size).2 .nil, (layVarsN P nm laid P.globals.size).1, o, P.globals.size⟩ m x.1 x.2.1 = some x.2.2) :
    ∃ φ D, Env ⟨P, setAll (layVarsN P nm laid P.globals.size).2 .nil, (layVarsN P nm laid P.globals.size).1, orcTab o l, P.globals.size⟩ w φ D := by
  obtain ⟨φ, D, h3, h4⟩ := laid_hrelN (orc := orcTab o l) hnm h
  exact ⟨φ, D, env.pf, orcTab_ok env ht hall, h3, h4⟩
end
end
end Go.AE

namespace Go.AE
noncomputable section
open Go.RowKit (Below)
/-- internal/stringslite.Clone, whose contract is at hand -/
def orcClone (F : Nat) (o : Nat → List AV → Option AV) (f : Nat) (args : List AV) : Option AV :=
  cnd (Nat.beq f F) (match args with
    | [.str s] => cnd (allBytes s && Nat.ble s.length 281474976710656) (some (.str s)) none
    | _ => none) (o f args)
section
variable {P : Program} {w : World}
theorem orcClone_some {F f : Nat} {o : Nat → List AV → Option AV} {args : List AV} {v : AV} (h : orcClone F o f args = some v) :
    (f = F ∧ ∃ s, args = [.str s] ∧ v = .str s ∧ (∀ x ∈ s, x < 256) ∧ s.length ≤ 281474976710656) ∨ o f args = some v := by
  unfold orcClone at h
  rw [cnd_beq] at h
  split at h
  · rename_i e
    split at h
    · rename_i s
      simp only [cnd_none, Bool.and_eq_true, Option.some.injEq] at h
      exact .inl ⟨e, s, rfl, h.2.symm, allBytes_all h.1.1, ble_le h.1.2⟩
    · simp at h
  · exact .inr h
/-- the evaluator's start, with Clone known besides -/
theorem Env.laidCloneN {nm : List (String × Nat)} (hnm : NamesOne P nm) {laid : List (String × DataW Unit)} {o : Nat → List AV → Option AV} {F : Nat} {fn : Func} {c : Code} (hf : P.funcs[F]? = some fn) (hn : (fn.name == "runtime.NumGoroutine") = false) (hb : fn.body = some c)
    (hC : ∀ (s : ByteArray) (w : World), s.size ≤ 281474976710656 → Calls P F #[.string s] w fun e w' => e = .returned (.string s) ∧ Below w.heap.size w w') (h : laidMet P laid w) {φ0 : Phi} {D0 : Nat → Prop}
    (env : Env ⟨P, setAll (layVarsN P nm laid P.globals.size).2 .nil, (layVarsN P nm laid P.globals.size).1, o, P.globals.size⟩ w φ0 D0) :
    ∃ φ D, Env ⟨P, setAll (layVarsN P nm laid P.globals.size).2 .nil, (layVarsN P nm laid P.globals.size).1, orcClone F o, P.globals.size⟩ w φ D := by
  obtain ⟨φ, D, h3, h4⟩ := laid_hrelN (orc := orcClone F o) hnm h
  refine ⟨φ, D, env.pf, ⟨fun f args v ho => ?_, fun f args v ho φ w2 hb2 => ?_⟩, h3, h4⟩
  · rcases orcClone_some ho with ⟨rfl, s, rfl, rfl, hs, _⟩ | ho
    · exact ⟨⟨fun _ _ => rfl, fun _ => hs⟩, fun _ _ => rfl, fun _ => ⟨hs, trivial⟩⟩
    · exact env.orc.val f args v ho
  · rcases orcClone_some ho with ⟨rfl, s, rfl, rfl, hs, hl⟩ | ho
    · right
      have hn' : ¬ fn.name = "runtime.NumGoroutine" := by simpa using hn
      refine ⟨by simp [callFunc, hf, hn', hb], ?_⟩
      have := hC (bytesOf s) w2 (by simpa [bytesOf, ByteArray.size] using hl)
      exact this
    · exact env.orc.ok f args v ho φ w2 hb2
end
end
end Go.AE

namespace Go.AE
noncomputable section
open Go.RowKit (Below)
/-! ### A long run, parted -/
/-- code in a function's body, by its path -/
def subCode : List Nat → Code → Code
  | [], c => c
  | i :: p, c => match c with
    | .seq a b => subCode p (cnd (Nat.beq i 0) a b)
    | .cond _ a b => subCode p (cnd (Nat.beq i 0) a b)
    | .block _ b => subCode p b
    | .loop b => subCode p b
    | .scope b => subCode p b
    | .rangeFunc _ _ a b => subCode p (cnd (Nat.beq i 0) a b)
    | c => c
def codeOf (P : Program) (f : Nat) (p : List Nat) : Code := match P.funcs[f]? with
  | some fn => (match fn.body with | some c => subCode p c | none => .skip)
  | none => .skip
def opsOf (c : Code) : Array Oper := match c with | .region _ ops _ => ops | _ => #[]
def restOf (C : Cfg) (n lv : Nat) (ops : Array Oper) (k : Nat) : List CI := match mkSeq C n ops lv with | some r => r.rest.drop k | none => []
def setL (C : Cfg) : List (Nat × AObj) → Tr AObj → Tr AObj
  | [], T => T
  | (b, o) :: l, T => setL C l (hset C T b (some o))
def pick (C : Cfg) (S : Tr AObj) : List Nat → List (Nat × AObj)
  | [] => []
  | b :: l => match hget C S b with | some o => (b, o) :: pick C S l | none => pick C S l
def dynAll (C : Cfg) : List Nat → Bool
  | [] => true
  | b :: l => dyn C b && dynAll C l
/-- of the objects, those on a list -/
def keepAt (C : Cfg) (L : List Nat) (S : Tr AObj) : Tr AObj := setL C (pick C S L) .nil
def plainTop (todo : List AItem) : Bool := match todo with | .drawn .. :: _ => false | _ => true
def noDrawn : List AFrame → Bool
  | [] => true
  | c :: l => (match c with | ⟨_, _, _, _, todo, _, _, _, _⟩ => (match todo with | .waitD .. :: _ => false | _ => true)) && noDrawn l
/-- b goes on with the objects on the list alone -/
def gc (C : Cfg) (L : List Nat) (b : KT) : KT := fun md todo F T S nx => match F with
  | ⟨fn, n, lv, df, dd, ro, cs⟩ => cnd (plainTop todo && noDrawn cs && dynAll C L) (b md todo ⟨fn, n, lv, df, dd, ro, cs⟩ T (keepAt C L S) nx) none
/-- has the run come to the place? -/
def isAt (f NX : Nat) (todo : List AItem) (F : FX) (nx : Nat) : Bool := cnd (Nat.beq nx NX) (match F with
  | ⟨fn, _, _, _, _, _, _⟩ => (match todo with | [it] => (match it with | .code _ => Nat.beq fn f | _ => false) | _ => false)) false
/-- the machine that hands over to b, where it comes to the place -/
def runTo (C : Cfg) (f NX : Nat) (b : KT) (n : Nat) : KT :=
  Nat.rec (motive := fun _ => KT) (fun _ _ _ _ _ _ => none) (fun _ ih md todo F T S nx => cnd (isAt f NX todo F nx) (b md todo F T S nx) (stepM ih C md todo F T S nx)) n
section
variable {C : Cfg} {φ φ0 : Phi} {D D0 : Nat → Prop} {S S' : Tr AObj} {nx B : Nat} {w : World}
variable {w0 : World} {f0 : Nat} {cs0 : List Frame} {v : AV} {b : KT}
theorem setL_get : ∀ (l : List (Nat × AObj)) (T : Tr AObj), (∀ x ∈ l, C.n0 ≤ x.1) → ∀ x o, hget C (setL C l T) x = some o → (x, o) ∈ l ∨ hget C T x = some o := by
  intro l
  induction l with
  | nil => intro T _ x o h; exact .inr h
  | cons a l ih =>
    obtain ⟨b, ob⟩ := a
    intro T hl x o h
    rcases ih _ (fun y hy => hl y (List.mem_cons_of_mem _ hy)) x o h with h | h
    · exact .inl (List.mem_cons_of_mem _ h)
    · have hb := hl (b, ob) (List.mem_cons_self ..)
      rw [hget_hset _ hb] at h
      split at h
      · rename_i e
        simp at h; subst h; subst e
        exact .inl (List.mem_cons_self ..)
      · exact .inr h
theorem pick_mem : ∀ (L : List Nat) (x : Nat × AObj), x ∈ pick C S L → x.1 ∈ L ∧ hget C S x.1 = some x.2 := by
  intro L
  induction L with
  | nil => intro x h; cases h
  | cons a L ih =>
    intro x h
    simp only [pick] at h
    split at h
    · rename_i o ho
      rcases List.mem_cons.1 h with rfl | h
      · exact ⟨List.mem_cons_self .., ho⟩
      · exact ⟨List.mem_cons_of_mem _ (ih x h).1, (ih x h).2⟩
    · exact ⟨List.mem_cons_of_mem _ (ih x h).1, (ih x h).2⟩
theorem dynAll_mem : ∀ {L : List Nat}, dynAll C L = true → ∀ x ∈ L, C.n0 ≤ x := by
  intro L
  induction L with
  | nil => intro _ x h; cases h
  | cons a L ih =>
    intro h x hx
    simp only [dynAll, Bool.and_eq_true] at h
    rcases List.mem_cons.1 hx with rfl | hx
    · exact ble_le h.1
    · exact ih h.2 x hx
theorem hget_low {T T' : Tr AObj} {x : Nat} (h : x < C.n0) : hget C T x = hget C T' x := by
  unfold hget
  rw [cnd_ite, cnd_ite, if_pos (by simp [Nat.blt]; omega), if_pos (by simp [Nat.blt]; omega)]
theorem keep_fewer {L : List Nat} (hL : dynAll C L = true) (x : Nat) : hget C (keepAt C L S) x = hget C S x ∨ hget C (keepAt C L S) x = none := by
  cases h : hget C (keepAt C L S) x with
  | none => exact .inr rfl
  | some o =>
    left
    unfold keepAt at h
    rcases setL_get _ _ (fun y hy => dynAll_mem hL _ (pick_mem L y hy).1) x o h with h | h
    · exact (pick_mem L _ h).2.symm
    · by_cases hx : x < C.n0
      · rw [← h]; exact hget_low hx
      · exfalso
        unfold hget at h
        rw [cnd_ite, if_neg (by simp [Nat.blt]; omega)] at h
        simp at h
theorem CsRel.fewer {lim : Nat} {cs : List AFrame} {gs : List Frame} (h : CsRel C φ D S f0 cs0 lim cs gs) (hn : noDrawn cs = true) : CsRel C φ D S' f0 cs0 lim cs gs := by
  induction h with
  | nil => exact .nil
  | cons h1 hm h2 h4 h5 h6 ih =>
    rename_i md _ _ _ _ _ _
    simp only [noDrawn, Bool.and_eq_true] at hn
    refine .cons ?_ hm h2 h4 h5 (ih hn.2)
    cases md with
    | run =>
      cases h1 with
      | seq a b => exact .seq a b
      | drawn a1 a2 a3 a4 a5 a6 a7 a8 a9 => simp at hn
      | rng a b c => exact .rng a b c
    | returning => exact h1
    | panicking ch => exact h1
theorem gc_sound {L : List Nat} (h : Sound C w0 f0 cs0 b) : Sound C w0 f0 cs0 (gc C L b) := by
  intro md todo fn n lv df dd ro cs T S nx v hv φ D w lim tmps K gs hst
  have hv : cnd (plainTop todo && noDrawn cs && dynAll C L) (b md todo ⟨fn, n, lv, df, dd, ro, cs⟩ T (keepAt C L S) nx) none = some v := hv
  simp only [cnd_none, Bool.and_eq_true] at hv
  obtain ⟨⟨⟨h1, h2⟩, h3⟩, hv⟩ := hv
  refine h _ _ _ _ _ _ _ _ _ _ _ _ v hv φ D w lim tmps K gs ?_
  refine ⟨hst.hr.fewer (keep_fewer h3), hst.bel, hst.gi, hst.limle, hst.fok, hst.mode, hst.bot, hst.cs.fewer h2, ?_⟩
  have ht := hst.todo
  cases md with
  | run =>
    cases ht with
    | plain a b => exact .plain a b
    | seq a b => exact .seq a b
    | drawn a1 a2 a3 a4 a5 => simp [plainTop] at h1
  | returning => exact ht
  | panicking ch => exact ht
theorem runTo_sound (env : Env C w0 φ0 D0) {f NX : Nat} (h : Sound C w0 f0 cs0 b) : ∀ n, Sound C w0 f0 cs0 (runTo C f NX b n) := by
  intro n
  induction n with
  | zero => intro md todo fn n lv df dd ro cs T S nx v h; simp [runTo] at h
  | succ m ihm =>
    intro md todo fn n lv df dd ro cs T S nx v hv
    have hv : cnd (isAt f NX todo ⟨fn, n, lv, df, dd, ro, cs⟩ nx) (b md todo ⟨fn, n, lv, df, dd, ro, cs⟩ T S nx) (stepM (runTo C f NX b m) C md todo ⟨fn, n, lv, df, dd, ro, cs⟩ T S nx) = some v := hv
    rw [cnd_ite] at hv
    split at hv
    · exact h _ _ _ _ _ _ _ _ _ _ _ _ v hv
    · exact stepM_sound env ihm _ _ _ _ _ _ _ _ _ _ _ _ v hv
/-- what a state of the evaluator's machine comes to -/
def GoodAt (C : Cfg) (w0 : World) (f0 : Nat) (cs0 : List Frame) (md : AMode) (todo : List AItem) (F : FX) (T : Tr AV) (S : Tr AObj) (nx : Nat) (v : AV) : Prop :=
  ∀ φ D w lim tmps K gs, State C w0 f0 cs0 md todo F.fn F.n F.lv F.df F.dd F.ro F.cs T S nx φ D w lim tmps K gs → Ends C w0 f0 cs0 v (lone (mkFrame φ F.fn F.df F.dd F.ro tmps K (cMode φ md)) gs w)
theorem goodAt_last (env : Env C w0 φ0 D0) {m : Nat} {md : AMode} {todo : List AItem} {F : FX} {T : Tr AV} (h : run C m md todo F T S nx = some v) : GoodAt C w0 f0 cs0 md todo F T S nx v :=
  fun φ D w lim tmps K gs hst => run_sound env m _ _ _ _ _ _ _ _ _ _ _ _ v h φ D w lim tmps K gs hst
open Classical in
/-- who answers at one state alone -/
def only (md1 : AMode) (todo1 : List AItem) (F1 : FX) (T1 : Tr AV) (S1 : Tr AObj) (nx1 : Nat) (v : AV) : KT := fun md todo F T S nx =>
  if md = md1 ∧ todo = todo1 ∧ F = F1 ∧ T = T1 ∧ S = S1 ∧ nx = nx1 then some v else none
theorem only_self {md1 : AMode} {todo1 : List AItem} {F1 : FX} {T1 : Tr AV} {S1 : Tr AObj} {nx1 : Nat} : only md1 todo1 F1 T1 S1 nx1 v md1 todo1 F1 T1 S1 nx1 = some v := by
  unfold only
  rw [if_pos ⟨rfl, rfl, rfl, rfl, rfl, rfl⟩]
theorem only_sound {md1 : AMode} {todo1 : List AItem} {F1 : FX} {T1 : Tr AV} {S1 : Tr AObj} {nx1 : Nat} (h : GoodAt C w0 f0 cs0 md1 todo1 F1 T1 S1 nx1 v) : Sound C w0 f0 cs0 (only md1 todo1 F1 T1 S1 nx1 v) := by
  intro md todo fn n lv df dd ro cs T S nx u hu φ D w lim tmps K gs hst
  unfold only at hu
  split at hu
  · rename_i e
    obtain ⟨rfl, rfl, rfl, rfl, rfl, rfl⟩ := e
    simp at hu; subst hu
    exact h φ D w lim tmps K gs hst
  · cases hu
/-- from one place to the next -/
theorem goodAt_step (env : Env C w0 φ0 D0) {L : List Nat} {f NX m : Nat} {md md1 : AMode} {todo todo1 : List AItem} {F F1 : FX} {T T1 : Tr AV} {S1 : Tr AObj} {nx1 : Nat}
    (h : ∀ b : KT, runTo C f NX (gc C L b) m md todo F T S nx = b md1 todo1 F1 T1 S1 nx1) (h1 : GoodAt C w0 f0 cs0 md1 todo1 F1 T1 S1 nx1 v) : GoodAt C w0 f0 cs0 md todo F T S nx v := by
  intro φ D w lim tmps K gs hst
  have hs := runTo_sound env (f := f) (NX := NX) (gc_sound (L := L) (only_sound h1)) m
  exact hs _ _ _ _ _ _ _ _ _ _ _ _ v ((h _).trans only_self) φ D w lim tmps K gs hst
/-- a call whose run is parted -/
theorem partCall_sound (env : Env C w0 φ0 D0) {L : List Nat} {f NX m g : Nat} {args : List AV} {md1 : AMode} {todo1 : List AItem} {F1 : FX} {T1 : Tr AV} {S1 : Tr AObj} {nx1 : Nat} (ga : goods D0 args)
    (h : ∀ b : KT, enterK (runTo C f NX (gc C L b) m) C g args false [] .nil C.n0 = b md1 todo1 F1 T1 S1 nx1) (h1 : ∀ cs1, GoodAt C w0 g cs1 md1 todo1 F1 T1 S1 nx1 v) :
    Calls C.P g (concs φ0 args).toArray w0 fun e w' => (∃ φ, e = .returned (conc φ v)) ∧ Below w0.heap.size w0 w' := by
  intro cs1
  have hE : Ends C w0 g cs1 v (lone (Frame.enter C.P g (concs φ0 args).toArray .normal) cs1 w0) :=
    enter_normal (runTo_sound env (f := f) (NX := NX) (gc_sound (L := L) (only_sound (h1 cs1))) m) env.base (Below.refl _ _) env.gi (Nat.le_refl _) .nil (fun _ => rfl) ga ((h _).trans only_self)
  obtain ⟨φ, w', fr, e1, e2, e3, e4⟩ := hE
  exact ⟨.returned (conc φ v), w', fr, ⟨⟨φ, rfl⟩, e4⟩, e1, e3, e2⟩
end
end
end Go.AE

namespace Go.AE
noncomputable section
open Go.RowKit (Below)
/-! ### Values that speak of low numbers only -/
mutual
def belowV (N : Nat) : AV → Bool
  | .ptr b _ => Nat.blt b N
  | .slice b _ _ _ => Nat.blt b N
  | .sliceU b _ _ _ => Nat.blt b N
  | .map m => Nat.blt m N
  | .func fn a b => (match fn with | .yield l => Nat.blt l N | _ => true) && (belowVs N a && belowVs N b)
  | .iface _ v => belowV N v
  | .agg l => belowVs N l
  | .tuple l => belowVs N l
  | _ => true
def belowVs (N : Nat) : List AV → Bool
  | [] => true
  | v :: l => belowV N v && belowVs N l
end
def low (D : Nat → Prop) (N : Nat) (b : Nat) : Prop := D b ∧ b < N
section
variable {D : Nat → Prop} {N : Nat}
mutual
theorem good_low : ∀ v, good D v → belowV N v = true → good (low D N) v
  | .bool _, _, _ => trivial
  | .int _ _, _, _ => trivial
  | .str _, g, _ => g
  | .ptr b o, g, h => ⟨g, blt_lt (by simpa [belowV] using h)⟩
  | .nilptr, _, _ => trivial
  | .slice b _ _ _, g, h => ⟨g, blt_lt (by simpa [belowV] using h)⟩
  | .sliceU b _ _ _, g, h => ⟨g, blt_lt (by simpa [belowV] using h)⟩
  | .nilslice, _, _ => trivial
  | .map m, g, h => ⟨g, blt_lt (by simpa [belowV] using h)⟩
  | .nilmap, _, _ => trivial
  | .func fn a b, g, h => by
    obtain ⟨g1, g2, g3⟩ := g
    simp only [belowV, Bool.and_eq_true] at h
    refine ⟨?_, goods_low a g2 h.2.1, goods_low b g3 h.2.2⟩
    cases fn <;> first | exact g1 | exact ⟨g1, blt_lt h.1⟩
  | .nilFunc, _, _ => trivial
  | .iface _ v, g, h => good_low v g (by simpa [belowV] using h)
  | .nilIface, _, _ => trivial
  | .agg l, g, h => goods_low l g (by simpa [belowV] using h)
  | .tuple l, g, h => goods_low l g (by simpa [belowV] using h)
theorem goods_low : ∀ l, goods D l → belowVs N l = true → goods (low D N) l
  | [], _, _ => trivial
  | v :: l, g, h => by
    simp only [belowVs, Bool.and_eq_true] at h
    exact ⟨good_low v g.1 h.1, goods_low l g.2 h.2⟩
end
end
def belowO (N : Nat) (v : Option AV) : Bool := match v with | some a => belowV N a | none => true
def belowTr (N : Nat) : Tr AV → Bool
  | .nil => true
  | .node v l r => belowO N v && (belowTr N l && belowTr N r)
def belowE3 (N : Nat) : List (AV × AV × Nat) → Bool
  | [] => true
  | e :: l => (belowV N e.1 && belowV N e.2.1) && belowE3 N l
def belowE2 (N : Nat) : List (AV × AV) → Bool
  | [] => true
  | e :: l => (belowV N e.1 && belowV N e.2) && belowE2 N l
def belowIV (N : Nat) : List (Nat × AV) → Bool
  | [] => true
  | e :: l => belowV N e.2 && belowIV N l
def belowNs (N : Nat) : List Nat → Bool
  | [] => true
  | b :: l => Nat.blt b N && belowNs N l
def belowDef (N : Nat) (d : ADef) : Bool := (match d.target with
  | .fn fn c => (match fn with | .yield l => Nat.blt l N | _ => true) && belowVs N c
  | .collected r => Nat.blt r N) && belowVs N d.args
def belowDefs (N : Nat) : List ADef → Bool
  | [] => true
  | d :: l => belowDef N d && belowDefs N l
def belowOb (N : Nat) : AObj → Bool
  | .cells c _ st => belowTr N c && (match st with | .grow l => belowNs N l.l | _ => true)
  | .map es _ => belowE3 N es
  | .look es => belowE2 N es
  | .sit _ _ => true
  | .mit m _ _ _ => (match m with | some b => Nat.blt b N | none => true)
  | .mitN m _ _ _ _ _ => Nat.blt m N
  | .loop _ _ _ _ _ T _ _ _ df => belowTr N T && Nat.blt df N
  | .deferred calls => (match calls with | some l => belowDefs N l | none => true)
def belowItem (N : Nat) : AItem → Bool
  | .waitS _ V _ _ _ => belowIV N V
  | .waitD .. => false
  | .drawn .. => false
  | .seqr .. => false
  | .inRangeFunc l => Nat.blt l N
  | .endRangeFunc l => Nat.blt l N
  | _ => true
def belowItems (N : Nat) : List AItem → Bool
  | [] => true
  | a :: l => belowItem N a && belowItems N l
def belowPans (N : Nat) : List APanic → Bool
  | [] => true
  | p :: l => belowV N p.v && belowPans N l
def belowMode (N : Nat) : AMode → Bool
  | .panicking ch => belowPans N ch
  | _ => true
def belowRo (N : Nat) (ro : Option Nat) : Bool := match ro with | some l => Nat.blt l N | none => true
def belowFr (N : Nat) (c : AFrame) : Bool := match c with
  | ⟨_, _, _, T, todo, df, md, _, ro⟩ => (belowTr N T && belowItems N todo) && ((belowDefs N df && belowMode N md) && belowRo N ro)
def belowFrs (N : Nat) : List AFrame → Bool
  | [] => true
  | c :: l => belowFr N c && belowFrs N l
def belowObs (N : Nat) : List (Nat × AObj) → Bool
  | [] => true
  | x :: l => (Nat.blt x.1 N && belowOb N x.2) && belowObs N l
def belowG (G : Tr AObj) (N : Nat) : Nat → Bool
  | 0 => true
  | b + 1 => (match G.get b with | some o => belowOb N o | none => true) && belowG G N b
def setT : List (Nat × AV) → Tr AV → Tr AV
  | [], T => T
  | (t, v) :: l, T => setT l (T.set t (some v))
def pickT (T : Tr AV) : List Nat → List (Nat × AV)
  | [] => []
  | t :: l => match T.get t with | some v => (t, v) :: pickT T l | none => pickT T l
/-- of the temporaries, those on a list -/
def keepT (L : List Nat) (T : Tr AV) : Tr AV := setT (pickT T L) .nil
def noItem (todo : List AItem) : Bool := match todo with
  | .waitS .. :: _ => false
  | .inRangeFunc _ :: _ => false
  | _ => true
/-- b goes on with less: the objects and the temporaries on the lists, the numbers below N -/
def shrinkK (C : Cfg) (L Lt : List Nat) (N : Nat) (b : KT) : KT := fun md todo F T S nx => match F with
  | ⟨fn, n, lv, df, dd, ro, cs⟩ => AMode.rec (motive := fun _ => Res)
    (cnd ((((Nat.ble C.n0 N && Nat.ble N nx) && (Nat.ble C.ng N && belowG C.G N C.n0)) && ((belowItems N todo && noItem todo) && (belowDefs N df && belowRo N ro))) &&
        ((belowFrs N cs && belowTr N (keepT Lt T)) && (dynAll C L && belowObs N (pick C S L))))
      (b .run todo ⟨fn, n, lv, df, dd, ro, cs⟩ (keepT Lt T) (keepAt C L S) N) none)
    none (fun _ => none) md
/-- an iterator over a map is told of by how many entries may be left -/
def castK (C : Cfg) (r : Nat) (b : KT) : KT := fun md todo F T S nx => match F with
  | ⟨fn, n, lv, df, dd, ro, cs⟩ => (match hget C S r with
    | some (.mit (some m) since _ st) => (match hget C S m with
      | some (.map es _) => cnd ((dyn C r && plainTop todo) && noDrawn cs) (b md todo ⟨fn, n, lv, df, dd, ro, cs⟩ T (hset C S r (some (.mitN m since es.length (es.map (·.2.2)) st none))) nx) none
      | _ => none)
    | some (.mitN m since n0 bs st _) => cnd ((dyn C r && plainTop todo) && noDrawn cs) (b md todo ⟨fn, n, lv, df, dd, ro, cs⟩ T (hset C S r (some (.mitN m since n0 bs st none))) nx) none
    | _ => none)
/-- the machine that hands over to b where it comes to the head of a loop -/
def atHead (f len : Nat) (todo : List AItem) (F : FX) : Bool := match F with
  | ⟨fn, _, _, _, _, _, _⟩ => (match todo with | .inLoop _ :: k => Nat.beq fn f && Nat.beq k.length len | _ => false)
def runHead (C : Cfg) (f len : Nat) (b : KT) (n : Nat) : KT :=
  Nat.rec (motive := fun _ => KT) (fun _ _ _ _ _ _ => none) (fun _ ih md todo F T S nx => cnd (atHead f len todo F) (b md todo F T S nx) (stepM ih C md todo F T S nx)) n
end
end Go.AE

namespace Go.AE
noncomputable section
open Go.RowKit (Below)
section
variable {C : Cfg} {φ φ0 : Phi} {D D0 : Nat → Prop} {S S' : Tr AObj} {nx B N : Nat} {w : World}
variable {w0 : World} {f0 g : Nat} {cs0 : List Frame} {v : AV} {b : KT}
theorem belowTr_get : ∀ {T : Tr AV} {i : Nat} {u : AV}, belowTr N T = true → T.get i = some u → belowV N u = true := by
  intro T
  induction T with
  | nil => intro i u _ h; simp at h
  | node a l r ihl ihr =>
    intro i u hb h
    simp only [belowTr, Bool.and_eq_true] at hb
    cases i with
    | zero => simp at h; subst h; exact hb.1
    | succ i =>
      have h' : (if Nat.beq (Nat.mod i 2) 0 = true then l.get (Nat.div i 2) else r.get (Nat.div i 2)) = some u := by
        have e : (Tr.node a l r).get (i + 1) = cnd (Nat.beq (Nat.mod i 2) 0) (l.get (Nat.div i 2)) (r.get (Nat.div i 2)) := rfl
        rw [e, cnd_ite] at h
        exact h
      split at h'
      · exact ihl hb.2.1 h'
      · exact ihr hb.2.2 h'
theorem belowE3_mem : ∀ {l : List (AV × AV × Nat)}, belowE3 N l = true → ∀ e ∈ l, belowV N e.1 = true ∧ belowV N e.2.1 = true := by
  intro l
  induction l with
  | nil => intro _ e h; cases h
  | cons a l ih =>
    intro h e he
    simp only [belowE3, Bool.and_eq_true] at h
    rcases List.mem_cons.1 he with rfl | he
    · exact h.1
    · exact ih h.2 e he
theorem belowE2_mem : ∀ {l : List (AV × AV)}, belowE2 N l = true → ∀ e ∈ l, belowV N e.1 = true ∧ belowV N e.2 = true := by
  intro l
  induction l with
  | nil => intro _ e h; cases h
  | cons a l ih =>
    intro h e he
    simp only [belowE2, Bool.and_eq_true] at h
    rcases List.mem_cons.1 he with rfl | he
    · exact h.1
    · exact ih h.2 e he
theorem belowIV_get : ∀ {l : List (Nat × AV)} {j : Nat} {u : AV}, belowIV N l = true → assocN l j = some u → belowV N u = true := by
  intro l
  induction l with
  | nil => intro j u _ h; simp at h
  | cons a l ih =>
    obtain ⟨i, x⟩ := a
    intro j u hb h
    simp only [belowIV, Bool.and_eq_true] at hb
    rw [assocN_cons] at h
    split at h
    · simp at h; subst h; exact hb.1
    · exact ih hb.2 h
theorem belowNs_mem : ∀ {l : List Nat}, belowNs N l = true → ∀ x ∈ l, x < N := by
  intro l
  induction l with
  | nil => intro _ x h; cases h
  | cons a l ih =>
    intro h x hx
    simp only [belowNs, Bool.and_eq_true] at h
    rcases List.mem_cons.1 hx with rfl | hx
    · exact blt_lt h.1
    · exact ih h.2 x hx
theorem def_low {d : ADef} (g : goodDef D d) (h : belowDef N d = true) : goodDef (low D N) d := by
  obtain ⟨t, as⟩ := d
  obtain ⟨g1, g2⟩ := g
  simp only [belowDef, Bool.and_eq_true] at h
  refine ⟨?_, goods_low as g2 h.2⟩
  cases t with
  | fn fn cs =>
    simp only [Bool.and_eq_true] at h
    refine ⟨?_, goods_low cs g1.2 h.1.2⟩
    cases fn <;> first | exact g1.1 | exact ⟨g1.1, blt_lt h.1.1⟩
  | collected r => exact ⟨g1, blt_lt h.1⟩
theorem defs_low : ∀ {l : List ADef}, (∀ d ∈ l, goodDef D d) → belowDefs N l = true → ∀ d ∈ l, goodDef (low D N) d := by
  intro l
  induction l with
  | nil => intro _ _ d h; cases h
  | cons a l ih =>
    intro g h d hd
    simp only [belowDefs, Bool.and_eq_true] at h
    rcases List.mem_cons.1 hd with rfl | hd
    · exact def_low (g _ (List.mem_cons_self ..)) h.1
    · exact ih (fun d hd => g d (List.mem_cons_of_mem _ hd)) h.2 d hd
theorem trel_low {n lv : Nat} {T T' : Tr AV} {tmps : Array Value} (h : TRel φ D n lv T tmps) (hs : ∀ t u, T'.get t = some u → T.get t = some u) (hb : belowTr N T' = true) : TRel φ (low D N) n lv T' tmps :=
  ⟨h.size, fun t u hl hu => by
    obtain ⟨h1, h2⟩ := h.val t u hl (hs t u hu)
    exact ⟨h1, good_low u h2 (belowTr_get hb hu)⟩⟩
theorem obj_low {o : AObj} {pl : Pl} (h : ORel C φ D o pl w) (hb : belowOb N o = true) : ORel C φ (low D N) o pl w := by
  cases o with
  | cells c n st =>
    simp only [belowOb, Bool.and_eq_true] at hb
    obtain ⟨arr, ty, lo, hi, h1, h2, h3, h4⟩ := h
    refine ⟨arr, ty, lo, hi, h1, h2, h3, fun i u hu => ?_⟩
    obtain ⟨h5, h6⟩ := h4 i u hu
    exact ⟨h5, good_low u h6 (belowTr_get hb.1 hu)⟩
  | map es clock =>
    obtain ⟨arr, h1, h2, h3⟩ := h
    exact ⟨arr, h1, h2, fun e he => ⟨good_low _ (h3 e he).1 (belowE3_mem hb e he).1, good_low _ (h3 e he).2 (belowE3_mem hb e he).2⟩⟩
  | look es =>
    obtain ⟨arr, clock, es', h1, h2, h4, h3⟩ := h
    refine ⟨arr, clock, es', h1, h2, h4, fun e he => ?_⟩
    have hm : (e.1, e.2.1) ∈ es := h4.mem_iff.1 (List.mem_map.2 ⟨e, he, rfl⟩)
    have := belowE2_mem hb _ hm
    exact ⟨good_low _ (h3 e he).1 this.1, good_low _ (h3 e he).2 this.2⟩
  | sit s pos => exact h
  | mit m since seen st =>
    obtain ⟨h0, h1, h2⟩ := h
    refine ⟨h0, h1, fun b hm => ⟨h2 b hm, ?_⟩⟩
    subst hm
    exact blt_lt hb
  | mitN m since n bs st cur =>
    obtain ⟨h0, h1, h2⟩ := h
    exact ⟨h0, ⟨h1, blt_lt hb⟩, h2⟩
  | loop state pending fn n lv T params assign body df =>
    obtain ⟨tmps, h1, h2, h3, h4⟩ := h
    simp only [belowOb, Bool.and_eq_true] at hb
    exact ⟨tmps, h1, trel_low h2 (fun _ _ h => h) hb.1, ⟨h3, blt_lt hb.2⟩, h4⟩
  | deferred calls =>
    obtain ⟨h1, h2⟩ := h
    refine ⟨h1, fun l hl d hd => ?_⟩
    subst hl
    exact defs_low (h2 l rfl) hb d hd
theorem vinv_low {lv : Nat} {X : Nat → Prop} {wr : List (Nat × Nat)} {V : List (Nat × AV)} {T : Tr AV} {tmps : Array Value} (h : VInv φ D lv X wr V T tmps) (hV : belowIV N V = true) (hT : belowTr N T = true) : VInv φ (low D N) lv X wr V T tmps := by
  intro t u hX hu
  obtain ⟨h1, h2⟩ := h t u hX hu
  refine ⟨h1, good_low u h2 ?_⟩
  split at hu
  · exact belowIV_get hV hu
  · exact belowTr_get hT hu.2
theorem krel_low {lv : Nat} : ∀ {k : List AItem} {K : List Item}, KRel C φ D lv k K → belowItems N k = true → KRel C φ (low D N) lv k K := by
  intro k K h
  induction h with
  | nil => intro _; exact .nil
  | cons h1 h2 ih =>
    intro hb
    simp only [belowItems, Bool.and_eq_true] at hb
    refine .cons ?_ (ih hb.2)
    cases h1 with
    | code h => exact .code h
    | inBlock => exact .inBlock
    | inLoop h => exact .inLoop h
    | inScope h => exact .inScope h
    | endRange h => exact .endRange ⟨h, blt_lt hb.1⟩
    | begin => exact .begin
theorem mode_low {md : AMode} (h : goodMode D md) (hb : belowMode N md = true) : goodMode (low D N) md := by
  cases md with
  | panicking ch =>
    have key : ∀ l : List APanic, belowPans N l = true → (∀ p ∈ l, good D p.v) → ∀ p ∈ l, good (low D N) p.v := by
      intro l
      induction l with
      | nil => intro _ _ p hp; cases hp
      | cons a l ih =>
        intro hb h p hp
        simp only [belowPans, Bool.and_eq_true] at hb
        rcases List.mem_cons.1 hp with rfl | hp
        · exact good_low _ (h _ (List.mem_cons_self ..)) hb.1
        · exact ih hb.2 (fun p hp => h p (List.mem_cons_of_mem _ hp)) p hp
    exact key ch hb h
  | _ => trivial
theorem fok_low {fn lv : Nat} {df : List ADef} {ro : Option Nat} (h : FOK C D fn lv df ro) (hd : belowDefs N df = true) (hr : belowRo N ro = true) : FOK C (low D N) fn lv df ro :=
  ⟨defs_low h.df hd, fun l hl => ⟨h.ro l hl, by subst hl; exact blt_lt hr⟩, h.fn⟩
theorem cs_low {lim : Nat} {cs : List AFrame} {gs : List Frame} (h : CsRel C φ D S f0 cs0 lim cs gs) (hb : belowFrs N cs = true) : CsRel C φ (low D N) S' f0 cs0 0 cs gs := by
  induction h with
  | nil => exact .nil
  | cons h1 hm h2 h4 h5 h6 ih =>
    rename_i lo lim fn n lv T todo df md dd ro cs tmps K gs
    simp only [belowFrs, belowFr, Bool.and_eq_true] at hb
    obtain ⟨⟨⟨hT, hI⟩, ⟨hD, hM⟩, hR⟩, hcs⟩ := hb
    refine .cons ?_ (mode_low hm hM) (fok_low h2 hD hR) h4 (Nat.le_refl 0) (ih hcs)
    cases md with
    | run =>
      cases h1 with
      | seq a b =>
        simp only [belowItems, Bool.and_eq_true] at hI
        obtain ⟨o, a1, a2, a3, a4, a5, a6, a7⟩ := b
        exact .seq (krel_low a hI.2) ⟨o, a1, a2, a3, a4, a5, vinv_low a6 hI.1 hT, a7⟩
      | drawn a1 a2 a3 a4 a5 a6 a7 a8 a9 => simp [belowItems, belowItem] at hI
      | rng a b c =>
        simp only [belowItems, Bool.and_eq_true] at hI
        exact .rng (krel_low a hI.2) (trel_low b (fun _ _ h => h) hT) ⟨c, blt_lt hI.1⟩
    | returning => exact trel_low h1 (fun _ _ h => h) hT
    | panicking ch => exact trel_low h1 (fun _ _ h => h) hT
theorem keepT_get {L : List Nat} {T : Tr AV} {t : Nat} {u : AV} (h : (keepT L T).get t = some u) : T.get t = some u := by
  have key : ∀ (l : List (Nat × AV)) (T0 : Tr AV), (setT l T0).get t = some u → (t, u) ∈ l ∨ T0.get t = some u := by
    intro l
    induction l with
    | nil => intro T0 h; exact .inr h
    | cons a l ih =>
      obtain ⟨i, x⟩ := a
      intro T0 h
      rcases ih _ h with h | h
      · exact .inl (List.mem_cons_of_mem _ h)
      · rw [Tr.get_set] at h
        by_cases e : i = t
        · subst e; simp at h; subst h; exact .inl (List.mem_cons_self ..)
        · simp [e] at h; exact .inr h
  have hp : ∀ L : List Nat, (t, u) ∈ pickT T L → T.get t = some u := by
    intro L
    induction L with
    | nil => intro h; cases h
    | cons a L ih =>
      intro h
      simp only [pickT] at h
      split at h
      · rename_i x hx
        rcases List.mem_cons.1 h with e | h
        · cases e; exact hx
        · exact ih h
      · exact ih h
  rcases key _ _ h with h | h
  · exact hp L h
  · simp at h
theorem belowObs_mem : ∀ {l : List (Nat × AObj)}, belowObs N l = true → ∀ x ∈ l, x.1 < N ∧ belowOb N x.2 = true := by
  intro l
  induction l with
  | nil => intro _ x h; cases h
  | cons a l ih =>
    intro h x hx
    simp only [belowObs, Bool.and_eq_true] at h
    rcases List.mem_cons.1 hx with rfl | hx
    · exact ⟨blt_lt h.1.1, h.1.2⟩
    · exact ih h.2 x hx
theorem belowG_get {G : Tr AObj} : ∀ {k : Nat}, belowG G N k = true → ∀ b o, b < k → G.get b = some o → belowOb N o = true := by
  intro k
  induction k with
  | zero => intro _ b o h; omega
  | succ k ih =>
    intro h b o hb ho
    simp only [belowG, Bool.and_eq_true] at h
    by_cases e : b = k
    · subst e; rw [ho] at h; exact h.1
    · exact ih h.2 b o (by omega) ho
theorem keep_obj {L : List Nat} (hL : dynAll C L = true) {x : Nat} {o : AObj} (h : hget C (keepAt C L S) x = some o) : (x < C.n0 ∧ C.G.get x = some o) ∨ (x, o) ∈ pick C S L := by
  unfold keepAt at h
  rcases setL_get _ _ (fun y hy => dynAll_mem hL _ (pick_mem L y hy).1) x o h with h | h
  · exact .inr h
  · unfold hget at h
    rw [cnd_ite] at h
    split at h
    · rename_i q; exact .inl ⟨blt_lt q, h⟩
    · simp at h
theorem shrinkK_sound {L Lt : List Nat} (h : Sound C w0 f0 cs0 b) : Sound C w0 f0 cs0 (shrinkK C L Lt N b) := by
  intro md todo fn n lv df dd ro cs T S nx v hv φ D w lim tmps K gs hst
  cases md with
  | returning => exact absurd (show (none : Option AV) = some v from hv) (by simp)
  | panicking ch => exact absurd (show (none : Option AV) = some v from hv) (by simp)
  | run =>
    have hv : cnd ((((Nat.ble C.n0 N && Nat.ble N nx) && (Nat.ble C.ng N && belowG C.G N C.n0)) && ((belowItems N todo && noItem todo) && (belowDefs N df && belowRo N ro))) && ((belowFrs N cs && belowTr N (keepT Lt T)) && (dynAll C L && belowObs N (pick C S L))))
      (b .run todo ⟨fn, n, lv, df, dd, ro, cs⟩ (keepT Lt T) (keepAt C L S) N) none = some v := hv
    simp only [cnd_none, Bool.and_eq_true] at hv
    obtain ⟨⟨⟨⟨⟨c1, c2⟩, c3, c4⟩, ⟨c5, c6⟩, c7, c8⟩, ⟨c9, c10⟩, c11, c12⟩, hv⟩ := hv
    have c1 := ble_le c1
    have c2 := ble_le c2
    have c3 := ble_le c3
    refine h _ _ _ _ _ _ _ _ _ _ _ _ v hv φ (low D N) w 0 tmps K gs ?_
    have hfew : ∀ x o, hget C (keepAt C L S) x = some o → hget C S x = some o := fun x o ho => by
      rcases keep_fewer (S := S) c11 x with q | q
      · rw [← q, ho]
      · rw [q] at ho; cases ho
    have hobj : ∀ x o, hget C (keepAt C L S) x = some o → x < N ∧ belowOb N o = true := fun x o ho => by
      rcases keep_obj c11 ho with ⟨q1, q2⟩ | q
      · exact ⟨Nat.lt_of_lt_of_le q1 c1, belowG_get c4 x o q1 q2⟩
      · exact belowObs_mem c12 _ q
    refine ⟨⟨c1, fun x h => h.2, fun x o ho => (hobj x o ho).1, ?_, ?_, ?_, ?_⟩, hst.bel, ?_, Nat.zero_le _, fok_low hst.fok c7 c8, trivial, hst.bot, cs_low hst.cs c9, ?_⟩
    · intro x o ho d
      exact obj_low (hst.hr.obj x o (hfew x o ho) d.1) (hobj x o ho).2
    · intro x y ox oy hx hy dx dy hne hn heq
      exact hst.hr.sep x y ox oy (hfew x ox hx) (hfew y oy hy) dx.1 dy.1 hne hn heq
    · intro x o hn ho d
      exact hst.hr.base x o hn (hfew x o ho) d.1
    · intro x o ho d
      have hol := hst.hr.olds x o (hfew x o ho) d.1
      refine ⟨fun c k l hl y hy => ?_, hol.2⟩
      obtain ⟨q1, q2⟩ := hol.1 c k l hl y hy
      refine ⟨⟨q1, ?_⟩, q2⟩
      have hb := (hobj x o ho).2
      subst hl
      simp only [belowOb, Bool.and_eq_true] at hb
      exact belowNs_mem hb.2 y hy
    · intro g hg
      obtain ⟨q1, q2⟩ := hst.gi g hg
      exact ⟨⟨q1, Nat.lt_of_lt_of_le hg c3⟩, q2⟩
    · have ht := hst.todo
      cases ht with
      | plain a b => exact .plain (krel_low a c5) (trel_low b (fun t u hu => keepT_get hu) c10)
      | seq a b => simp [belowItems, belowItem] at c5
      | drawn a1 a2 a3 a4 a5 => simp [belowItems, belowItem] at c5
theorem castK_sound {r : Nat} (h : Sound C w0 f0 cs0 b) : Sound C w0 f0 cs0 (castK C r b) := by
  intro md todo fn n lv df dd ro cs T S nx v hv φ D w lim tmps K gs hst
  unfold castK at hv
  simp only at hv
  split at hv
  · rename_i m since seen st hr
    split at hv
    · rename_i es clock hm
      simp only [cnd_none, Bool.and_eq_true] at hv
      obtain ⟨⟨⟨c1, c2⟩, c3⟩, hv⟩ := hv
      have hb : C.n0 ≤ r := ble_le c1
      refine h _ _ _ _ _ _ _ _ _ _ _ _ v hv φ D w lim tmps K gs ?_
      by_cases hd : D r
      · obtain ⟨o1, o2, o3⟩ := hst.hr.obj r _ hr hd
        have hr' : HRel C φ D (hset C S r (some (.mitN m since es.length (es.map (·.2.2)) st none))) nx w0.heap.size w :=
          hst.hr.recast (ob' := .mitN m since es.length (es.map (·.2.2)) st none) hb hd hr ⟨by simp, by simp⟩ (by rw [hget_hset _ hb, if_pos rfl]) (fun x hx => by rw [hget_hset _ hb, if_neg hx])
            ⟨o1, o3 m rfl, seen, by rw [o2]; rfl, by have := List.length_filter_le (fun b => !seen.contains b) (es.map (·.2.2)); simpa using this, fun _ h => (by cases h)⟩ ⟨fun _ _ _ h => (by cases h), fun _ _ _ h => (by cases h)⟩
        refine ⟨hr', hst.bel, hst.gi, hst.limle, hst.fok, hst.mode, hst.bot, hst.cs.fewer c3, ?_⟩
        have ht := hst.todo
        cases md with
        | run =>
          cases ht with
          | plain a b => exact .plain a b
          | seq a b => exact .seq a b
          | drawn a1 a2 a3 a4 a5 => simp [plainTop] at c2
        | returning => exact ht
        | panicking ch => exact ht
      · -- a number that means nothing yet
        have hr' : HRel C φ D (hset C S r (some (.mitN m since es.length (es.map (·.2.2)) st none))) nx w0.heap.size w := by
          refine hst.hr.more (Nat.le_refl _) (fun x hx => by rw [hget_hset _ hb, if_neg (show ¬ x = r from fun e => hd (by rw [← e]; exact hx))]) (fun x o ho => ?_)
          rw [hget_hset _ hb] at ho
          split at ho
          · rename_i e; subst e; exact hst.hr.olt x _ hr
          · exact hst.hr.olt x o ho
        refine ⟨hr', hst.bel, hst.gi, hst.limle, hst.fok, hst.mode, hst.bot, hst.cs.fewer c3, ?_⟩
        have ht := hst.todo
        cases md with
        | run =>
          cases ht with
          | plain a b => exact .plain a b
          | seq a b => exact .seq a b
          | drawn a1 a2 a3 a4 a5 => simp [plainTop] at c2
        | returning => exact ht
        | panicking ch => exact ht
    · simp at hv
  · rename_i m since n0 bs st cur hr
    simp only [cnd_none, Bool.and_eq_true] at hv
    obtain ⟨⟨⟨c1, c2⟩, c3⟩, hv⟩ := hv
    have hb : C.n0 ≤ r := ble_le c1
    refine h _ _ _ _ _ _ _ _ _ _ _ _ v hv φ D w lim tmps K gs ?_
    by_cases hd : D r
    · obtain ⟨o1, o2, seen, o3, o4, _⟩ := hst.hr.obj r _ hr hd
      have hr' : HRel C φ D (hset C S r (some (.mitN m since n0 bs st none))) nx w0.heap.size w :=
        hst.hr.recast (ob' := .mitN m since n0 bs st none) hb hd hr ⟨by simp, by simp⟩ (by rw [hget_hset _ hb, if_pos rfl]) (fun x hx => by rw [hget_hset _ hb, if_neg hx])
          ⟨o1, o2, seen, o3, o4, fun _ h => (by cases h)⟩ ⟨fun _ _ _ h => (by cases h), fun _ _ _ h => (by cases h)⟩
      refine ⟨hr', hst.bel, hst.gi, hst.limle, hst.fok, hst.mode, hst.bot, hst.cs.fewer c3, ?_⟩
      have ht := hst.todo
      cases md with
      | run =>
        cases ht with
        | plain a b => exact .plain a b
        | seq a b => exact .seq a b
        | drawn a1 a2 a3 a4 a5 => simp [plainTop] at c2
      | returning => exact ht
      | panicking ch => exact ht
    · -- a number that means nothing yet
      have hr' : HRel C φ D (hset C S r (some (.mitN m since n0 bs st none))) nx w0.heap.size w := by
        refine hst.hr.more (Nat.le_refl _) (fun x hx => by rw [hget_hset _ hb, if_neg (show ¬ x = r from fun e => hd (by rw [← e]; exact hx))]) (fun x o ho => ?_)
        rw [hget_hset _ hb] at ho
        split at ho
        · rename_i e; subst e; exact hst.hr.olt x _ hr
        · exact hst.hr.olt x o ho
      refine ⟨hr', hst.bel, hst.gi, hst.limle, hst.fok, hst.mode, hst.bot, hst.cs.fewer c3, ?_⟩
      have ht := hst.todo
      cases md with
      | run =>
        cases ht with
        | plain a b => exact .plain a b
        | seq a b => exact .seq a b
        | drawn a1 a2 a3 a4 a5 => simp [plainTop] at c2
      | returning => exact ht
      | panicking ch => exact ht
  · simp at hv
theorem runHead_sound (env : Env C w0 φ0 D0) {f len : Nat} (h : Sound C w0 f0 cs0 b) : ∀ n, Sound C w0 f0 cs0 (runHead C f len b n) := by
  intro n
  induction n with
  | zero => intro md todo fn n lv df dd ro cs T S nx v h; simp [runHead] at h
  | succ m ihm =>
    intro md todo fn n lv df dd ro cs T S nx v hv
    have hv : cnd (atHead f len todo ⟨fn, n, lv, df, dd, ro, cs⟩) (b md todo ⟨fn, n, lv, df, dd, ro, cs⟩ T S nx) (stepM (runHead C f len b m) C md todo ⟨fn, n, lv, df, dd, ro, cs⟩ T S nx) = some v := hv
    rw [cnd_ite] at hv
    split at hv
    · exact h _ _ _ _ _ _ _ _ _ _ _ _ v hv
    · exact stepM_sound env ihm _ _ _ _ _ _ _ _ _ _ _ _ v hv

/-! ### Going from state to state -/
/-- whatever goes on soundly behind X, goes on soundly ahead of it -/
theorem goodAt_via {X : KT → KT} (hX : ∀ b, Sound C w0 f0 cs0 b → Sound C w0 f0 cs0 (X b)) {md md1 : AMode} {todo todo1 : List AItem} {F F1 : FX} {T T1 : Tr AV} {S1 : Tr AObj} {nx1 : Nat}
    (h : ∀ b : KT, X b md todo F T S nx = b md1 todo1 F1 T1 S1 nx1) (h1 : GoodAt C w0 f0 cs0 md1 todo1 F1 T1 S1 nx1 v) : GoodAt C w0 f0 cs0 md todo F T S nx v :=
  fun φ D w lim tmps K gs hst => hX _ (only_sound h1) _ _ _ _ _ _ _ _ _ _ _ _ v ((h _).trans only_self) φ D w lim tmps K gs hst
open Classical in
/-- who answers v at every state that comes to v -/
def allGood (C : Cfg) (w0 : World) (f0 : Nat) (cs0 : List Frame) (v : AV) : KT := fun md todo F T S nx => if GoodAt C w0 f0 cs0 md todo F T S nx v then some v else none
theorem allGood_sound : Sound C w0 f0 cs0 (allGood C w0 f0 cs0 v) := by
  intro md todo fn n lv df dd ro cs T S nx u hu φ D w lim tmps K gs hst
  unfold allGood at hu
  split at hu
  · rename_i h
    simp at hu; subst hu
    exact h φ D w lim tmps K gs hst
  · cases hu
theorem allGood_some {md : AMode} {todo : List AItem} {F : FX} {T : Tr AV} (h : GoodAt C w0 f0 cs0 md todo F T S nx v) : allGood C w0 f0 cs0 v md todo F T S nx = some v := by
  unfold allGood
  rw [if_pos h]
theorem forkK_all {it : AItem} {k : List AItem} {F : FX} {T : Tr AV} (hs : AV.same 30 v v = true) : ∀ l : List (AV × Tr AObj), l ≠ [] → (∀ u S', (u, S') ∈ l → ∃ it', fillItem it u = some it' ∧ GoodAt C w0 f0 cs0 .run (it' :: k) F T S' nx v) →
    forkK (allGood C w0 f0 cs0 v) it k F T nx l = some v := by
  intro l
  induction l with
  | nil => intro h; exact absurd rfl h
  | cons p l ihl =>
    obtain ⟨u, S'⟩ := p
    intro _ hall
    obtain ⟨it', h1, h2⟩ := hall u S' (List.mem_cons_self ..)
    cases l with
    | nil => simp only [forkK, h1]; exact allGood_some h2
    | cons q l =>
      have ih := ihl (by simp) (fun u S' h => hall u S' (List.mem_cons_of_mem _ h))
      simp only [forkK, h1, allGood_some h2]
      rw [ih]
      simp only [hs, cnd_true]
/-- a state from which the machine comes to several ways at once -/
theorem goodAt_fork (env : Env C w0 φ0 D0) (hs : AV.same 30 v v = true) {md : AMode} {todo : List AItem} {F F1 : FX} {T T1 : Tr AV} {it : AItem} {k : List AItem} {nx1 : Nat} {l : List (AV × Tr AObj)} (hne : l ≠ [])
    (h : ∀ ih : KT, stepM ih C md todo F T S nx = forkK ih it k F1 T1 nx1 l) (hall : ∀ u S', (u, S') ∈ l → ∃ it', fillItem it u = some it' ∧ GoodAt C w0 f0 cs0 .run (it' :: k) F1 T1 S' nx1 v) : GoodAt C w0 f0 cs0 md todo F T S nx v :=
  fun φ D w lim tmps K gs hst => stepM_sound env allGood_sound _ _ _ _ _ _ _ _ _ _ _ _ v ((h _).trans (forkK_all hs l hne hall)) φ D w lim tmps K gs hst
theorem goodAt_one (env : Env C w0 φ0 D0) {md md1 : AMode} {todo todo1 : List AItem} {F F1 : FX} {T T1 : Tr AV} {S1 : Tr AObj} {nx1 : Nat} (h : ∀ ih : KT, stepM ih C md todo F T S nx = ih md1 todo1 F1 T1 S1 nx1)
    (h1 : GoodAt C w0 f0 cs0 md1 todo1 F1 T1 S1 nx1 v) : GoodAt C w0 f0 cs0 md todo F T S nx v :=
  goodAt_via (X := fun b md todo F T S nx => stepM b C md todo F T S nx) (fun _ hb => stepM_sound env hb) h h1
/-- where the run has come to, by its frame, its numbers and what is left to do -/
def isAtN (f NX len : Nat) (todo : List AItem) (F : FX) (nx : Nat) : Bool := cnd (Nat.beq nx NX) (match F with
  | ⟨fn, _, _, _, _, _, _⟩ => (match todo with | .code _ :: k => Nat.beq fn f && Nat.beq k.length len | _ => false)) false
def runAt (C : Cfg) (f NX len : Nat) (b : KT) (n : Nat) : KT :=
  Nat.rec (motive := fun _ => KT) (fun _ _ _ _ _ _ => none) (fun _ ih md todo F T S nx => cnd (isAtN f NX len todo F nx) (b md todo F T S nx) (stepM ih C md todo F T S nx)) n
theorem runAt_sound (env : Env C w0 φ0 D0) {f NX len : Nat} (h : Sound C w0 f0 cs0 b) : ∀ n, Sound C w0 f0 cs0 (runAt C f NX len b n) := by
  intro n
  induction n with
  | zero => intro md todo fn n lv df dd ro cs T S nx v h; simp [runAt] at h
  | succ m ihm =>
    intro md todo fn n lv df dd ro cs T S nx v hv
    have hv : cnd (isAtN f NX len todo ⟨fn, n, lv, df, dd, ro, cs⟩ nx) (b md todo ⟨fn, n, lv, df, dd, ro, cs⟩ T S nx) (stepM (runAt C f NX len b m) C md todo ⟨fn, n, lv, df, dd, ro, cs⟩ T S nx) = some v := hv
    rw [cnd_ite] at hv
    split at hv
    · exact h _ _ _ _ _ _ _ _ _ _ _ _ v hv
    · exact stepM_sound env ihm _ _ _ _ _ _ _ _ _ _ _ _ v hv
/-- a call whose run is handed over to X's machine -/
theorem viaCall_sound (env : Env C w0 φ0 D0) {X : KT → KT} (hX : ∀ cs1 b, Sound C w0 g cs1 b → Sound C w0 g cs1 (X b)) {args : List AV} {md1 : AMode} {todo1 : List AItem} {F1 : FX} {T1 : Tr AV} {S1 : Tr AObj} {nx1 : Nat} (ga : goods D0 args)
    (h : ∀ b : KT, enterK (X b) C g args false [] .nil C.n0 = b md1 todo1 F1 T1 S1 nx1) (h1 : ∀ cs1, GoodAt C w0 g cs1 md1 todo1 F1 T1 S1 nx1 v) :
    Calls C.P g (concs φ0 args).toArray w0 fun e w' => (∃ φ, e = .returned (conc φ v)) ∧ Below w0.heap.size w0 w' := by
  intro cs1
  have hE : Ends C w0 g cs1 v (lone (Frame.enter C.P g (concs φ0 args).toArray .normal) cs1 w0) :=
    enter_normal (hX cs1 _ (only_sound (h1 cs1))) env.base (Below.refl _ _) env.gi (Nat.le_refl _) .nil (fun _ => rfl) ga ((h _).trans only_self)
  obtain ⟨φ, w', fr, e1, e2, e3, e4⟩ := hE
  exact ⟨.returned (conc φ v), w', fr, ⟨⟨φ, rfl⟩, e4⟩, e1, e3, e2⟩
/-- a loop over a map: whatever the order, a round leads back to its head with one entry less -/
theorem goodAt_loop (env : Env C w0 φ0 D0) (hs : AV.same 30 v v = true) {todoH : List AItem} {F : FX} {T : Tr AV} {obW : Nat → Option Nat → Tr AObj} {it itE : AItem} {k : List AItem} {ents : List (AV × Nat)}
    (hEnd : ∀ n, GoodAt C w0 f0 cs0 .run (itE :: k) F T (obW n none) nx v) (hE : fillItem it (.tuple [.bool false]) = some itE)
    (hEnt : ∀ u ∈ ents, ∃ it', fillItem it u.1 = some it' ∧ ∀ n, GoodAt C w0 f0 cs0 .run todoH F T (obW n none) nx v → GoodAt C w0 f0 cs0 .run (it' :: k) F T (obW n (some u.2)) nx v)
    (h0 : GoodAt C w0 f0 cs0 .run todoH F T (obW 0 none) nx v)
    (hS : ∀ (ih : KT) (n : Nat), stepM ih C .run todoH F T (obW (n + 1) none) nx = forkK ih it k F T nx ((.tuple [.bool false], obW (n + 1) none) :: ents.map fun u => (u.1, obW n (some u.2)))) :
    ∀ n, GoodAt C w0 f0 cs0 .run todoH F T (obW n none) nx v := by
  intro n
  induction n with
  | zero => exact h0
  | succ n ih =>
    refine goodAt_fork env hs (by simp) (fun i => hS i n) fun u S' hm => ?_
    rcases List.mem_cons.1 hm with e | hm
    · cases e; exact ⟨itE, hE, hEnd (n + 1)⟩
    · obtain ⟨u', hu, e⟩ := List.mem_map.1 hm
      cases e
      obtain ⟨it', h1, h2⟩ := hEnt _ hu
      exact ⟨it', h1, h2 n ih⟩
/-- into a loop over a map -/
theorem goodAt_into (env : Env C w0 φ0 D0) (hs : AV.same 30 v v = true) {todoI todoH : List AItem} {F : FX} {T : Tr AV} {obW : Nat → Option Nat → Tr AObj} {it itE : AItem} {k : List AItem} {ents : List (AV × Nat)} {N : Nat}
    (hEnd : ∀ n, GoodAt C w0 f0 cs0 .run (itE :: k) F T (obW n none) nx v) (hE : fillItem it (.tuple [.bool false]) = some itE)
    (hEnt : ∀ u ∈ ents, ∃ it', fillItem it u.1 = some it' ∧ ∀ n, GoodAt C w0 f0 cs0 .run todoH F T (obW n none) nx v → GoodAt C w0 f0 cs0 .run (it' :: k) F T (obW n (some u.2)) nx v)
    (hH : ∀ n, GoodAt C w0 f0 cs0 .run todoH F T (obW n none) nx v)
    (hI : ∀ ih : KT, stepM ih C .run todoI F T (obW (N + 1) none) nx = forkK ih it k F T nx ((.tuple [.bool false], obW (N + 1) none) :: ents.map fun u => (u.1, obW N (some u.2)))) :
    GoodAt C w0 f0 cs0 .run todoI F T (obW (N + 1) none) nx v := by
  refine goodAt_fork env hs (by simp) hI fun u S' hm => ?_
  rcases List.mem_cons.1 hm with e | hm
  · cases e; exact ⟨itE, hE, hEnd (N + 1)⟩
  · obtain ⟨u', hu, e⟩ := List.mem_map.1 hm
    cases e
    obtain ⟨it', h1, h2⟩ := hEnt _ hu
    exact ⟨it', h1, h2 N (hH N)⟩
end
end
end Go.AE

namespace Go.AE
noncomputable section
open Go.RowKit (Below)
/-! ### Tables of a few functions alone -/
/-- a table, asked for the listed functions alone -/
def orcTabQ (fs : List Nat) (o : Nat → List AV → Option AV) (l : List (Nat × List AV × AV)) (f : Nat) (args : List AV) : Option AV := cnd (memN f fs) (orcTab o l f args) (o f args)
section
variable {P : Program} {w : World}
theorem Env.laidTabQ {nm : List (String × Nat)} (hnm : NamesOne P nm) {laid : List (String × DataW Unit)} {fs : List Nat} {o : Nat → List AV → Option AV} {l : List (Nat × List AV × AV)} (h : laidMet P laid w) {φ0 : Phi} {D0 : Nat → Prop}
    (env : Env ⟨P, setAll (layVarsN P nm laid P.globals.size).2 .nil, (layVarsN P nm laid P.globals.size).1, o, P.globals.size⟩ w φ0 D0) (ht : tabOk l = true)
    (hall : ∀ x ∈ l, ∃ m, runCall ⟨P, setAll (layVarsN P nm laid P.globals.size).2 .nil, (layVarsN P nm laid P.globals.size).1, o, P.globals.size⟩ m x.1 x.2.1 = some x.2.2) :
    ∃ φ D, Env ⟨P, setAll (layVarsN P nm laid P.globals.size).2 .nil, (layVarsN P nm laid P.globals.size).1, orcTabQ fs o l, P.globals.size⟩ w φ D := by
  obtain ⟨φ, D, h3, h4⟩ := laid_hrelN (orc := orcTabQ fs o l) hnm h
  have hT := orcTab_ok env ht hall
  refine ⟨φ, D, env.pf, ⟨fun f args v ho => ?_, fun f args v ho φ w2 hb2 => ?_⟩, h3, h4⟩
  · have ho : cnd (memN f fs) (orcTab o l f args) (o f args) = some v := ho
    rw [cnd_ite] at ho
    split at ho
    · exact hT.val f args v ho
    · exact env.orc.val f args v ho
  · have ho : cnd (memN f fs) (orcTab o l f args) (o f args) = some v := ho
    rw [cnd_ite] at ho
    split at ho
    · exact hT.ok f args v ho φ w2 hb2
    · exact env.orc.ok f args v ho φ w2 hb2
end
end
end Go.AE
