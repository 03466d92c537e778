/- The evaluator answers as the model does for every operation on memory, maps, slices and strings; no condition. -/
import Derived.Test.YtggompagkfmgnaaGreatDoorEvA
import Derived.Laws.NewFold
import Derived.Laws.CopyRow
import Derived.Laws.RangeString
namespace Go.AE
open Go.RowKit (Below)

theorem hget_hset {C : Cfg} {S : Tr AObj} {b : Nat} (o : Option AObj) (hb : C.n0 ≤ b) (x : Nat) : hget C (hset C S b o) x = if x = b then o else hget C S x := by
  unfold hget hset
  rw [cnd_ite, cnd_ite]
  by_cases hx : Nat.blt x C.n0 = true
  · have := blt_lt hx
    rw [if_pos hx, if_pos hx, if_neg (by omega)]
  · have hx' : C.n0 ≤ x := by
      rcases Nat.lt_or_ge x C.n0 with h | h
      · exact absurd (by simp [Nat.blt]; omega) hx
      · exact h
    rw [if_neg hx, if_neg hx, Tr.get_set]
    show (if b - C.n0 = x - C.n0 then o else S.get (x - C.n0)) = _
    by_cases e : x = b
    · rw [if_pos (by omega), if_pos e]
    · rw [if_neg (by omega), if_neg e]; rfl
theorem hget_killAll {C : Cfg} : ∀ (l : List Nat) (S : Tr AObj) (x : Nat), (∀ b ∈ l, C.n0 ≤ b) → hget C (killAll C l S) x = if x ∈ l then none else hget C S x := by
  intro l
  induction l with
  | nil => intro S x _; simp [killAll]
  | cons b l ih =>
    intro S x h
    simp only [killAll]
    rw [ih _ _ (fun c hc => h c (by simp [hc])), hget_hset _ (h b (by simp))]
    by_cases hx : x ∈ l
    · simp [hx]
    · by_cases e : x = b
      · simp [e]
      · simp [hx, e]

/-! ### Worlds that follow one another -/
def upd (φ : Phi) (b : Nat) (pl : Pl) : Phi := fun x => if x = b then pl else φ x
def add (D : Nat → Prop) (b : Nat) : Nat → Prop := fun x => D x ∨ x = b
structure Ext (C : Cfg) (lim : Nat) (φ : Phi) (D : Nat → Prop) (S : Tr AObj) (B : Nat) (w : World) (φ' : Phi) (D' : Nat → Prop) (S' : Tr AObj) (w' : World) : Prop where
  phi : ∀ b, D b → φ' b = φ b
  dom : ∀ b, D b → D' b
  new : ∀ b, D' b → D b ∨ lim ≤ b
  keep : ∀ b, ¬ D b → b < lim → hget C S' b = hget C S b
  below : Below B w w'
theorem Ext.refl {C : Cfg} {lim : Nat} {φ : Phi} {D : Nat → Prop} {S : Tr AObj} {B : Nat} {w : World} : Ext C lim φ D S B w φ D S w :=
  ⟨fun _ _ => rfl, fun _ h => h, fun _ h => .inl h, fun _ _ _ => rfl, .refl _ _⟩
theorem Ext.trans {C : Cfg} {lim lim' : Nat} {φ φ' φ'' : Phi} {D D' D'' : Nat → Prop} {S S' S'' : Tr AObj} {B : Nat} {w w' w'' : World} (h : Ext C lim φ D S B w φ' D' S' w') (hl : lim ≤ lim')
    (k : Ext C lim' φ' D' S' B w' φ'' D'' S'' w'') : Ext C lim φ D S B w φ'' D'' S'' w'' :=
  ⟨fun b hb => (k.phi b (h.dom b hb)).trans (h.phi b hb), fun b hb => k.dom b (h.dom b hb),
   fun b hb => (k.new b hb).elim (fun hb => h.new b hb) (fun hb => .inr (by omega)),
   fun b hb hl' => by
     have hn : ¬ D' b := fun hd => (h.new b hd).elim hb (fun q => by omega)
     rw [k.keep b hn (by omega), h.keep b hb hl'],
   h.below.trans k.below⟩

section
variable {C : Cfg} {φ φ' : Phi} {D D' : Nat → Prop} {S S' : Tr AObj} {nx nx' B : Nat} {w w' : World}

theorem conc_keep (hφ : ∀ b, D b → φ' b = φ b) {v : AV} (g : good D v) : conc φ' v = conc φ v := conc_congr hφ v g
theorem concs_keep (hφ : ∀ b, D b → φ' b = φ b) {l : List AV} (g : goods D l) : concs φ' l = concs φ l := concs_congr hφ l g
theorem TRel.keep {n lv : Nat} {T : Tr AV} {tmps : Array Value} (hφ : ∀ b, D b → φ' b = φ b) (hD : ∀ b, D b → D' b) (h : TRel φ D n lv T tmps) : TRel φ' D' n lv T tmps :=
  ⟨h.size, fun t v hl hv => by
    obtain ⟨h1, h2⟩ := h.val t v hl hv
    exact ⟨by rw [h1, conc_keep hφ h2], good_mono hD v h2⟩⟩
theorem cDef_keep (hφ : ∀ b, D b → φ' b = φ b) {d : ADef} (g : goodDef D d) : cDef φ' d = cDef φ d := by
  obtain ⟨t, as⟩ := d
  obtain ⟨g1, g2⟩ := g
  simp only [cDef, concs_keep hφ g2]
  congr 1
  cases t with
  | fn fn cs =>
    obtain ⟨h1, h2⟩ := g1
    have e : cFn φ' fn = cFn φ fn := by
      cases fn <;> simp only [cFn]
      rw [hφ _ h1]
    simp only [cTarget, e, concs_keep hφ h2]
  | collected r => simp only [cTarget, hφ r g1]
theorem goodDef_mono (hD : ∀ b, D b → D' b) {d : ADef} (g : goodDef D d) : goodDef D' d := by
  obtain ⟨t, as⟩ := d
  refine ⟨?_, goods_mono hD _ g.2⟩
  cases t with
  | fn fn cs => exact ⟨by cases fn <;> first | exact hD _ g.1.1 | exact g.1.1, goods_mono hD _ g.1.2⟩
  | collected r => exact hD _ g.1
theorem ORel.keep {o : AObj} {pl : Pl} (hφ : ∀ b, D b → φ' b = φ b) (hD : ∀ b, D b → D' b) (hw : w'.heap[pl.blk]? = w.heap[pl.blk]?) (h : ORel C φ D o pl w) : ORel C φ' D' o pl w' := by
  cases o with
  | cells c n st =>
    obtain ⟨arr, ty, lo, hi, h1, h2, h3, h4⟩ := h
    refine ⟨arr, ty, lo, hi, by rw [hw, h1], h2, h3, fun i v hv => ?_⟩
    obtain ⟨h5, h6⟩ := h4 i v hv
    exact ⟨by rw [h5, conc_keep hφ h6], good_mono hD v h6⟩
  | map es clock =>
    obtain ⟨arr, h1, h2, h3⟩ := h
    refine ⟨arr, by rw [hw, h1], ?_, fun e he => ⟨good_mono hD _ (h3 e he).1, good_mono hD _ (h3 e he).2⟩⟩
    rw [h2]
    apply List.map_congr_left
    intro e he
    simp only [entryOf, conc_keep hφ (h3 e he).1, conc_keep hφ (h3 e he).2]
  | look es =>
    obtain ⟨arr, clock, es', h1, h2, h4, h3⟩ := h
    refine ⟨arr, clock, es', by rw [hw, h1], ?_, h4, fun e he => ⟨good_mono hD _ (h3 e he).1, good_mono hD _ (h3 e he).2⟩⟩
    rw [h2]
    apply List.map_congr_left
    intro e he
    simp only [entryOf, conc_keep hφ (h3 e he).1, conc_keep hφ (h3 e he).2]
  | sit s pos => exact ⟨h.1, by rw [hw, h.2.1], h.2.2⟩
  | mit m since seen st =>
    obtain ⟨h0, h1, h2⟩ := h
    refine ⟨h0, ?_, fun b hb => hD b (h2 b hb)⟩
    rw [hw, h1]
    cases m with
    | none => rfl
    | some m => simp only [Option.map_some, hφ m (h2 m rfl)]
  | mitN m since n bs st cur =>
    obtain ⟨h0, h1, seen, h2, h3⟩ := h
    exact ⟨h0, hD m h1, seen, by rw [hw, h2, hφ m h1], h3⟩
  | loop state pending fn n lv T params assign body df =>
    obtain ⟨tmps, h1, h2, h3, h4⟩ := h
    exact ⟨tmps, by rw [hw, h1, hφ df h3], h2.keep hφ hD, hD _ h3, h4⟩
  | deferred calls =>
    obtain ⟨h1, h2⟩ := h
    refine ⟨?_, fun l hl d hd => goodDef_mono hD (h2 l hl d hd)⟩
    rw [hw, h1]
    cases calls with
    | none => rfl
    | some l =>
      simp only [Option.map_some]
      congr 3
      exact List.map_congr_left fun d hd => (cDef_keep hφ (h2 l rfl d hd)).symm
theorem ORel.lt {o : AObj} {pl : Pl} (h : ORel C φ D o pl w) : pl.blk < w.heap.size := by
  have : ∃ x, w.heap[pl.blk]? = some x := by
    cases o with
    | cells c n st => obtain ⟨arr, ty, lo, hi, h1, _⟩ := h; exact ⟨_, h1⟩
    | map es clock => obtain ⟨arr, h1, _⟩ := h; exact ⟨_, h1⟩
    | look es => obtain ⟨arr, clock, es', h1, _⟩ := h; exact ⟨_, h1⟩
    | sit s pos => exact ⟨_, h.2.1⟩
    | mit m since seen st => exact ⟨_, h.2.1⟩
    | mitN m since n bs st cur => obtain ⟨_, _, seen, h1, _⟩ := h; exact ⟨_, h1⟩
    | loop state pending fn n lv T params assign body df => obtain ⟨tmps, h1, _⟩ := h; exact ⟨_, h1⟩
    | deferred calls => exact ⟨_, h.1⟩
  obtain ⟨x, hx⟩ := this
  exact (Array.getElem?_eq_some_iff.1 hx).1

/-- a new object under a number that was free -/
theorem HRel.alloc (hr : HRel C φ D S nx B w) {b : Nat} {pl : Pl} {ob : AObj} {o : Obj} (hb : C.n0 ≤ b) (hlt : b < nx') (hnx : nx ≤ nx') (hn : ¬ D b) (hB : B ≤ w.heap.size) (hpl : pl.blk = w.heap.size)
    (hS : hget C S' b = some ob) (hS' : ∀ x, x ≠ b → hget C S' x = hget C S x ∨ hget C S' x = none) (ho : ORel C (upd φ b pl) (add D b) ob pl (w.alloc o)) (hol : OldsIn C (add D b) ob) :
    HRel C (upd φ b pl) (add D b) S' nx' B (w.alloc o) := by
  have hφ : ∀ x, D x → upd φ b pl x = φ x := fun x hx => by
    unfold upd; rw [if_neg]; intro e; subst e; exact hn hx
  have hb' : upd φ b pl b = pl := by unfold upd; rw [if_pos rfl]
  have hold : ∀ k, k < w.heap.size → (w.alloc o).heap[k]? = w.heap[k]? := fun k hk => Below.heap_alloc _ _ _ hk
  have key : ∀ x ox, hget C S' x = some ox → add D b x → x ≠ b → hget C S x = some ox ∧ D x ∧ (φ x).blk < w.heap.size := by
    intro x ox hx hd hne
    have hd' : D x := hd.resolve_right hne
    rcases hS' x hne with h | h
    · have : hget C S x = some ox := by rw [← h, hx]
      exact ⟨this, hd', (hr.obj x ox this hd').lt⟩
    · rw [h] at hx; cases hx
  refine ⟨Nat.le_trans hr.n0 hnx, ?_, ?_, ?_, ?_, ?_, ?_⟩
  · intro x hx
    rcases hx with hx | hx
    · have := hr.lt x hx; omega
    · omega
  · intro x ox hx
    by_cases e : x = b
    · omega
    · rcases hS' x e with h | h
      · have := hr.olt x ox (by rw [← h, hx]); omega
      · rw [h] at hx; cases hx
  · intro x ox hx hd
    by_cases e : x = b
    · subst e
      rw [hS] at hx; cases hx
      rw [hb']; exact ho
    · obtain ⟨h1, h2, h3⟩ := key x ox hx hd e
      rw [hφ x h2]
      exact (hr.obj x ox h1 h2).keep hφ (fun _ h => .inl h) (hold _ h3)
  · intro x y ox oy hx hy dx dy hne hxn heq
    by_cases e : x = b
    · subst e
      by_cases e2 : y = x
      · exact absurd e2.symm hne
      · obtain ⟨h1, h2, h3⟩ := key y oy hy dy e2
        rw [hb', hφ y h2] at heq
        omega
    · obtain ⟨h1, h2, h3⟩ := key x ox hx dx e
      by_cases e2 : y = b
      · subst e2
        rw [hb', hφ x h2] at heq
        omega
      · obtain ⟨h4, h5, h6⟩ := key y oy hy dy e2
        rw [hφ x h2, hφ y h5] at heq ⊢
        exact hr.sep x y ox oy h1 h4 h2 h5 hne hxn heq
  · intro x ox hxn hx hd
    by_cases e : x = b
    · subst e; rw [hb']; omega
    · obtain ⟨h1, h2, h3⟩ := key x ox hx hd e
      rw [hφ x h2]
      exact hr.base x ox hxn h1 h2
  · intro x ox hx hd
    by_cases e : x = b
    · subst e; rw [hS] at hx; cases hx; exact hol
    · obtain ⟨h1, h2, h3⟩ := key x ox hx hd e
      refine ⟨fun c n l hl y hy => ?_, (hr.olds x ox h1 h2).2⟩
      obtain ⟨g1, g2⟩ := (hr.olds x ox h1 h2).1 c n l hl y hy
      exact ⟨.inl g1, g2⟩
/-- fewer objects are known -/
theorem HRel.fewer (hr : HRel C φ D S nx B w) (hS : ∀ x, hget C S' x = hget C S x ∨ hget C S' x = none) : HRel C φ D S' nx B w := by
  have key : ∀ x ox, hget C S' x = some ox → hget C S x = some ox := by
    intro x ox hx
    rcases hS x with h | h
    · rw [← h, hx]
    · rw [h] at hx; cases hx
  exact ⟨hr.n0, hr.lt, fun x ox hx => hr.olt x ox (key x ox hx), fun x ox hx hd => hr.obj x ox (key x ox hx) hd,
    fun x y ox oy hx hy dx dy hne hxn heq => hr.sep x y ox oy (key x ox hx) (key y oy hy) dx dy hne hxn heq, fun x ox hxn hx hd => hr.base x ox hxn (key x ox hx) hd, fun x ox hx hd => hr.olds x ox (key x ox hx) hd⟩
/-- one object is changed; who else lies in its block, is gone -/
theorem HRel.put (hr : HRel C φ D S nx B w) {b : Nat} {ob ob' : AObj} (hb : C.n0 ≤ b) (hd : D b) (hob : hget C S b = some ob) (hS : hget C S' b = some ob')
    (hS' : ∀ x, x ≠ b → hget C S' x = hget C S x ∨ hget C S' x = none) (hw : ∀ k, k ≠ (φ b).blk → w'.heap[k]? = w.heap[k]?)
    (hsh : ∀ x ox, x ≠ b → hget C S' x = some ox → D x → (φ x).blk = (φ b).blk → False) (ho : ORel C φ D ob' (φ b) w') (hol : OldsIn C D ob') : HRel C φ D S' nx B w' := by
  have key : ∀ x ox, x ≠ b → hget C S' x = some ox → hget C S x = some ox := by
    intro x ox hne hx
    rcases hS' x hne with h | h
    · rw [← h, hx]
    · rw [h] at hx; cases hx
  refine ⟨hr.n0, hr.lt, ?_, ?_, ?_, ?_, ?_⟩
  · intro x ox hx
    by_cases e : x = b
    · subst e; exact hr.lt x hd
    · exact hr.olt x ox (key x ox e hx)
  · intro x ox hx dx
    by_cases e : x = b
    · subst e; rw [hS] at hx; cases hx; exact ho
    · exact (hr.obj x ox (key x ox e hx) dx).keep (fun _ _ => rfl) (fun _ h => h) (hw _ fun q => hsh x ox e hx dx q)
  · intro x y ox oy hx hy dx dy hne hxn heq
    by_cases e : x = b
    · subst e
      exact (hsh y oy (fun q => hne q.symm) hy dy heq.symm).elim
    · by_cases e2 : y = b
      · subst e2; exact (hsh x ox e hx dx heq).elim
      · exact hr.sep x y ox oy (key x ox e hx) (key y oy e2 hy) dx dy hne hxn heq
  · intro x ox hxn hx dx
    by_cases e : x = b
    · subst e; exact hr.base x ob hxn hob hd
    · exact hr.base x ox hxn (key x ox e hx) dx
  · intro x ox hx dx
    by_cases e : x = b
    · subst e; rw [hS] at hx; cases hx; exact hol
    · exact hr.olds x ox (key x ox e hx) dx
/-- nobody else lies in the block of such an object -/
def Alone (o : AObj) : Prop := (∀ c n, o ≠ .cells c n .stale) ∧ (∀ c n l, o ≠ .cells c n (.grow l))
theorem HRel.alone (hr : HRel C φ D S nx B w) {b : Nat} {ob : AObj} (hb : C.n0 ≤ b) (hd : D b) (hob : hget C S b = some ob) (ha : Alone ob) :
    ∀ x ox, x ≠ b → hget C S x = some ox → D x → (φ x).blk = (φ b).blk → False := by
  intro x ox hne hx dx heq
  rcases (hr.sep b x ob ox hob hx hd dx (fun q => hne q.symm) hb heq.symm).1 with ⟨c, n, _, _, q, _⟩ | ⟨c, n, l, _, _, q, _⟩ | ⟨_, _, _, c, n, _, q, _⟩
  · exact ha.1 _ _ q
  · exact ha.2 _ _ _ q
  · exact ha.1 _ _ q
end
end Go.AE

namespace Go.AE
open Go.RowKit (Below)
section
variable {C : Cfg} {φ φ' : Phi} {D D' : Nat → Prop} {S S' : Tr AObj} {nx nx' B : Nat} {w w' : World}

theorem heap_new (w : World) (o : Obj) : (w.alloc o).heap[w.heap.size]? = some o := by
  show (w.heap.push o)[w.heap.size]? = _
  simp
theorem upd_self (φ : Phi) (b : Nat) (pl : Pl) : upd φ b pl b = pl := by unfold upd; rw [if_pos rfl]
theorem upd_keep {b : Nat} {pl : Pl} (hn : ¬ D b) : ∀ x, D x → upd φ b pl x = φ x := fun x hx => by
  unfold upd; rw [if_neg]; intro e; subst e; exact hn hx
theorem concs_len (φ : Phi) (l : List AV) : (concs φ l).length = l.length := by rw [concs_eq, List.length_map]
theorem concs_get (φ : Phi) (l : List AV) (i : Nat) : (concs φ l)[i]? = (l[i]?).map (conc φ) := by rw [concs_eq, List.getElem?_map]
theorem concs_app (φ : Phi) (a b : List AV) : concs φ (a ++ b) = concs φ a ++ concs φ b := by simp [concs_eq]
theorem goods_app {a b : List AV} (ha : goods D a) (hb : goods D b) : goods D (a ++ b) := by
  rw [goods_iff] at *
  intro v hv
  rcases List.mem_append.1 hv with h | h
  · exact ha v h
  · exact hb v h
theorem goods_get {l : List AV} (h : goods D l) {i : Nat} {v : AV} (hv : l[i]? = some v) : good D v := (goods_iff D l).1 h v (List.mem_of_getElem? hv)
theorem ofList_get (l : List AV) (i : Nat) : (Tr.ofList l 0 .nil).get i = l[i]? := by
  rw [Tr.get_ofList]
  split
  · simp
  · rename_i h
    have : l.length ≤ i := by omega
    rw [List.getElem?_eq_none this]; rfl
/-- a new row whose cells are known -/
theorem cells_new {l : List AV} (g : goods D l) (ty : TypeId) (r : Nat) (w : World) : ORel C φ D (.cells (Tr.ofList l 0 .nil) l.length .own) ⟨w.heap.size, 0, r⟩ (w.alloc (.cells (concs φ l).toArray ty)) := by
  refine ⟨_, ty, 0, 0, heap_new _ _, rfl, by simp [concs_len], fun i v hv => ?_⟩
  rw [ofList_get] at hv
  refine ⟨?_, goods_get g hv⟩
  simp only [Nat.zero_add, List.getElem?_toArray, concs_get, hv, Option.map_some]

theorem cells_typed {l : List AV} (g : goods D l) (ty : TypeId) (r : Nat) (w : World) : ORel C φ D (.cells (Tr.ofList l 0 .nil) l.length (.typed ty)) ⟨w.heap.size, 0, r⟩ (w.alloc (.cells (concs φ l).toArray ty)) := by
  obtain ⟨arr, ty', lo, hi, h1, h2, h3, h4⟩ := cells_new (C := C) (φ := φ) (D := D) g ty r w
  rw [heap_new] at h1
  cases h1
  exact ⟨_, ty, 0, 0, heap_new _ _, ⟨rfl, rfl, rfl⟩, h3, h4⟩
theorem repl_len (n : Nat) (z : List AV) : (repl n z).length = n * z.length := by
  induction n with
  | zero => simp [repl]
  | succ n ih => simp [repl, ih, Nat.succ_mul, Nat.add_comm]
theorem repl_get (z : List AV) : ∀ (n i : Nat), i < n * z.length → (repl n z)[i]? = z[i % z.length]? := by
  intro n
  induction n with
  | zero => intro i h; omega
  | succ n ih =>
    intro i h
    simp only [repl]
    rw [Nat.succ_mul] at h
    by_cases hi : i < z.length
    · rw [List.getElem?_append_left hi, Nat.mod_eq_of_lt hi]
    · rw [List.getElem?_append_right (by omega), ih _ (by omega)]
      congr 1
      exact (Nat.mod_eq_sub_mod (by omega)).symm
theorem goods_repl {z : List AV} (h : goods D z) : ∀ n, goods D (repl n z) := by
  intro n
  induction n with
  | zero => trivial
  | succ n ih => exact goods_app h ih
theorem range_repl (φ : Phi) (z : List AV) (n : Nat) : ((Array.range (n * z.length)).map fun i => (concs φ z).toArray[i % z.length]!) = (concs φ (repl n z)).toArray := by
  apply Array.ext'
  rw [Array.toList_map, Array.toList_range]
  show _ = concs φ (repl n z)
  apply List.ext_getElem?
  intro i
  rw [List.getElem?_map, concs_get]
  by_cases hi : i < n * z.length
  · rw [List.getElem?_range hi, repl_get z n i hi]
    have hz : 0 < z.length := by
      rcases Nat.eq_zero_or_pos z.length with h | h
      · rw [h] at hi; omega
      · exact h
    have hm : i % z.length < z.length := Nat.mod_lt _ hz
    simp only [Option.map_some]
    rw [List.getElem?_eq_getElem hm]
    simp only [Option.map_some, Option.some.injEq]
    rw [getElem!_pos _ _ (by simpa [concs_len] using hm)]
    simp [concs_eq]
  · have h1 : (List.range (n * z.length))[i]? = none := List.getElem?_eq_none (by simp; omega)
    have h2 : (repl n z)[i]? = none := List.getElem?_eq_none (by rw [repl_len]; omega)
    rw [h1, h2]; rfl
theorem range_zeros (φ : Phi) (z : List AV) (s n : Nat) (hz : z.length = s) (zero : Array Value) (h0 : n * s ≠ 0 → zero = (concs φ z).toArray) :
    ((Array.range (n * s)).map (zero[· % zero.size]!)) = (concs φ (repl n z)).toArray := by
  subst hz
  by_cases h : n * z.length = 0
  · have h1 : repl n z = [] := List.length_eq_zero_iff.1 (by rw [repl_len]; exact h)
    rw [h, h1]; simp [concs]
  · rw [h0 h, ← range_repl]
    simp [concs_len]

/-- what is made: the operation's answer, the block, where it lies -/
theorem make_sound {oper : Oper} {ρ : Operand → Value} {ρ' : Operand → Option AV} {b : Nat} {v : AV} {ob : AObj} (hn : ¬ D b) (hρ : Ev φ D ρ ρ' oper.op.operands.toList)
    (h : aMake oper.op C ρ' b = some (v, ob)) : ∃ o, (execOp ρ oper).run C.P w = .ok (.value (conc (upd φ b ⟨w.heap.size, 0, 0⟩) v)) (w.alloc o) ∧ good (add D b) v ∧
      ORel C (upd φ b ⟨w.heap.size, 0, 0⟩) (add D b) ob ⟨w.heap.size, 0, 0⟩ (w.alloc o) := by
  have hφ := upd_keep (φ := φ) (pl := ⟨w.heap.size, 0, 0⟩) hn
  have hD : ∀ x, D x → add D b x := fun _ h => .inl h
  obtain ⟨dst, op, type, pos, after, guard⟩ := oper
  cases op <;> simp only [aMake] at h <;> (try (cases h; done)) <;> simp only [execOp] <;> simp only [Op.operands] at hρ
  case alloc t =>
    unfold mAlloc at h
    split at h
    · rename_i z hz
      simp at h; obtain ⟨rfl, rfl⟩ := h
      obtain ⟨z1, z2⟩ := run_zeroOf hz φ D w
      refine ⟨.cells (concs φ z.cells).toArray t, ?_, .inr rfl, ?_⟩
      · simp [Instr.alloc, z1, newVar, newRow, cells_conc, conc, upd_self]
      · cases selfT C t
        · have := cells_new (C := C) (φ := upd φ b ⟨w.heap.size, 0, 0⟩) (D := add D b) (goods_mono hD _ (cells_good z2)) t 0 w
          rw [concs_keep hφ (cells_good z2)] at this
          exact this
        · have := cells_typed (C := C) (φ := upd φ b ⟨w.heap.size, 0, 0⟩) (D := add D b) (goods_mono hD _ (cells_good z2)) t 0 w
          rw [concs_keep hφ (cells_good z2)] at this
          exact this
    · simp at h
  case box t x =>
    unfold mBox at h
    split at h
    · rename_i u hu
      simp at h; obtain ⟨rfl, rfl⟩ := h
      obtain ⟨h1, h2⟩ := hρ x (by simp) u hu
      refine ⟨.cells (concs φ u.cells).toArray t, ?_, .inr rfl, ?_⟩
      · simp [Instr.box, newVar, newRow, h1, cells_conc, conc, upd_self]
      · have := cells_new (C := C) (φ := upd φ b ⟨w.heap.size, 0, 0⟩) (D := add D b) (goods_mono hD _ (cells_good h2)) t 0 w
        rw [concs_keep hφ (cells_good h2)] at this
        exact this
    · simp at h
  case buildSlice t len parts =>
    unfold mSlice at h
    split at h
    · rename_i elem ps hu hps
      split at h
      · rename_i s z hs hz
        simp only [cnd_none, Bool.and_eq_true] at h
        obtain ⟨⟨h1, h2⟩, h⟩ := h
        have h1 : len * s ≤ 16777216 := ble_le h1
        have h2 : z.cells.length = s := Nat.eq_of_beq_eq_true h2
        split at h
        · rename_i cs hcs
          simp at h; obtain ⟨rfl, rfl⟩ := h
          obtain ⟨z1, z2⟩ := run_zeroOf hz φ D w
          obtain ⟨p1, p2⟩ := evalParts_of (by simpa using hρ) hps
          obtain ⟨f1, f2⟩ := fillL_sound (φ := φ) (place' := fun i => some (i * s, s)) (fun _ _ h => h) ps (repl len z.cells) cs (goods_repl (cells_good z2) len) p2 hcs
          refine ⟨.cells (concs φ cs).toArray elem, ?_, .inr rfl, ?_⟩
          · have e : (parts.map fun x => (x.1, ρ x.2)).toList = ps.map fun x => (x.1, conc φ x.2) := by rw [← p1]; simp
            have hgt : ¬ (len * s > 2 ^ 24) := by
              have : (2 : Nat) ^ 24 = 16777216 := by decide
              omega
            have hf : Instr.fill (fun i => some (i * s, s)) ((Array.range (len * s)).map ((if len * s = 0 then #[] else (conc φ z).cells)[· % (if len * s = 0 then #[] else (conc φ z).cells).size]!)) (parts.map fun x => (x.1, ρ x.2)).toList = some (concs φ cs).toArray := by
              rw [range_zeros φ z.cells s len h2 _ (fun hne => by rw [if_neg hne, cells_conc]), e]
              exact f1
            simp only [Instr.buildSlice, Sem.run_bind, run_underlying hu, Result.andThen_ok, run_szOf hs]
            rw [if_neg hgt]
            by_cases h0 : len * s = 0
            · rw [if_pos h0] at hf
              simp only [if_pos h0, Sem.run_bind, Sem.run_pure, Result.andThen_ok, hf]
              simp [newRow, conc, upd_self]
            · simp only [if_neg h0] at hf
              simp only [if_neg h0, Sem.run_bind, Sem.run_pure, Result.andThen_ok, z1, hf]
              simp [newRow, conc, upd_self]
          · have := cells_new (C := C) (φ := upd φ b ⟨w.heap.size, 0, 0⟩) (D := add D b) (goods_mono hD _ f2) elem 0 w
            rw [concs_keep hφ f2] at this
            exact this
        · simp at h
      · simp at h
    · simp at h
  case makeMap t r =>
    cases r with
    | some r => simp [aMake] at h
    | none =>
      simp [aMake] at h; obtain ⟨rfl, rfl⟩ := h
      refine ⟨.map #[] 0, ?_, .inr rfl, ?_⟩
      · simp [Instr.makeMap, conc, upd_self]
      · exact ⟨#[], heap_new _ _, rfl, by simp⟩
end
end Go.AE

namespace Go.AE
open Go.RowKit (Below)
section
variable {C : Cfg} {φ φ' : Phi} {D D' : Nat → Prop} {S S' : Tr AObj} {nx nx' B : Nat} {w w' : World}

/-! ### Stores -/
def setMs : Array Value → Nat → List Value → Array Value
  | c, _, [] => c
  | c, o, v :: l => setMs (c.setIfInBounds o v) (o + 1) l
theorem setMs_size : ∀ (l : List Value) (c : Array Value) (o : Nat), (setMs c o l).size = c.size := by
  intro l
  induction l with
  | nil => intro c o; rfl
  | cons v l ih => intro c o; simp [setMs, ih]
theorem setMs_get : ∀ (l : List Value) (c : Array Value) (o i : Nat), o + l.length ≤ c.size → (setMs c o l)[i]? = if o ≤ i ∧ i < o + l.length then l[i - o]? else c[i]? := by
  intro l
  induction l with
  | nil => intro c o i _; rw [if_neg (by simp only [List.length_nil]; omega)]; rfl
  | cons v l ih =>
    intro c o i h
    simp only [List.length_cons] at h
    simp only [setMs]
    rw [ih _ _ _ (by simp; omega)]
    by_cases e : i = o
    · subst e
      rw [if_neg (by omega), if_pos (by simp)]
      have hlt : i < c.size := by omega
      simp [hlt]
    · by_cases q : o + 1 ≤ i ∧ i < o + 1 + l.length
      · rw [if_pos q, if_pos (by simp; omega), show i - o = (i - (o + 1)) + 1 by omega, List.getElem?_cons_succ]
      · rw [if_neg q, if_neg (by simp only [List.length_cons]; omega), Array.getElem?_setIfInBounds_ne (fun h => e h.symm)]
theorem run_store_row (P : Program) (g o : Nat) (t : TypeId) (lo hi : Nat) : ∀ (vs : List Value) (i : Nat) (cur : Array Value) (w : World), w.heap[g]? = some (.cells cur t (lo, hi)) → (hi ≤ lo ∨ cur.size ≤ lo) →
    o + i + vs.length ≤ cur.size → (∀ v ∈ vs, v.oneCell' = true) → (storeCells ⟨g, o, none⟩ vs i).run P w = .ok () (w.setRow g (setMs cur (o + i) vs)) := by
  intro vs
  induction vs with
  | nil =>
    intro i cur w hg _ _ _
    simp only [storeCells, setMs]
    rw [setRow_self w g cur t _ hg]; rfl
  | cons v vs ih =>
    intro i cur w hg hf hl h1
    simp only [List.length_cons] at hl
    have hlt : o + i < cur.size := by omega
    have hadd : (⟨g, o, none⟩ : Addr).add i = ⟨g, o + i, none⟩ := add_at _ _ _
    have hcell : w.cell? ⟨g, o + i, none⟩ = some cur[o + i] := by simp [World.cell?, hg, hlt]
    have hfro : w.frozen? ⟨g, o + i, none⟩ = false := by
      simp only [World.frozen?, hg, Bool.and_eq_false_iff, decide_eq_false_iff_not]
      omega
    have hst : (store ((⟨g, o, none⟩ : Addr).add i) v).run P w = .ok () (w.setRow g (cur.setIfInBounds (o + i) v)) := by
      rw [hadd, run_store P w _ v _ (h1 v (by simp)), hcell]
      simp [hfro, setCell_eq_setRow w g (o + i) cur t _ v hg]
    have := ih (i + 1) (cur.setIfInBounds (o + i) v) (w.setRow g (cur.setIfInBounds (o + i) v)) (setRow_heap w g cur _ t _ hg) (by simpa using hf) (by simp; omega) (fun x hx => h1 x (by simp [hx]))
    simp only [storeCells, Sem.run_bind, hst, Result.andThen_ok, this, setRow_setRow, setMs]
    rfl
theorem below_setRow {p : Nat} (hB : B ≤ p) (cs : Array Value) (w : World) : Below B w (w.setRow p cs) :=
  ⟨rfl, rfl, rfl, by simp [World.setRow], fun k hk => setRow_other w p k cs (by omega)⟩

theorem ones_conc : ∀ {vs : List AV}, ones vs = true → ∀ v ∈ concs φ vs, v.oneCell' = true := by
  intro vs
  induction vs with
  | nil => intro _ v hv; simp [concs] at hv
  | cons a l ih =>
    intro h v hv
    simp only [ones, Bool.and_eq_true] at h
    simp only [concs, List.mem_cons] at hv
    rcases hv with rfl | hv
    · cases a <;> simp [oneV] at h <;> rfl
    · exact ih h.2 v hv
/-- the cells of a row behind a store -/
theorem writeN_rel {c : Tr AV} {arr : Array Value} {sh o n : Nat} {vs : List AV} (hg : goods D vs) (ho : o + vs.length ≤ n) (hn : sh + n ≤ arr.size)
    (h : ∀ i v, c.get i = some v → arr[sh + i]? = some (conc φ v) ∧ good D v) :
    ∀ i v, (writeN c o vs).get i = some v → (setMs arr (sh + o) (concs φ vs))[sh + i]? = some (conc φ v) ∧ good D v := by
  intro i v hv
  rw [writeN_eq, Tr.get_ofList] at hv
  rw [setMs_get _ _ _ _ (by rw [concs_len]; omega), concs_len]
  split at hv
  · rename_i hi
    rw [if_pos (by omega), concs_get, show sh + i - (sh + o) = i - o by omega, hv]
    exact ⟨rfl, goods_get hg hv⟩
  · rename_i hi
    rw [if_neg (by omega)]
    exact h i v hv
theorem writeN_lt {c : Tr AV} {o n : Nat} {vs : List AV} (ho : o + vs.length ≤ n) (h : ∀ i v, c.get i = some v → i < n) : ∀ i v, (writeN c o vs).get i = some v → i < n := by
  intro i v hv
  rw [writeN_eq, Tr.get_ofList] at hv
  split at hv
  · omega
  · exact h i v hv
theorem ofList_lt {l : List AV} : ∀ i v, (Tr.ofList l 0 .nil).get i = some v → i < l.length := by
  intro i v hv
  rw [ofList_get] at hv
  exact (List.getElem?_eq_some_iff.1 hv).1
/-- a store into a block that may be written -/
theorem aWrite_sound (hr : HRel C φ D S nx B w) {lim b o : Nat} {vs : List AV} (hd : D b) (hg : goods D vs) (h : aWrite C S b o vs = some S') :
    ∃ w', (storeCells ⟨(φ b).blk, (φ b).sh + o, none⟩ (concs φ vs)).run C.P w = .ok () w' ∧ HRel C φ D S' nx B w' ∧ Ext C lim φ D S B w φ D S' w' := by
  unfold aWrite at h
  split at h
  · rename_i c n st ho
    simp only [cnd_none, Bool.and_eq_true] at h
    obtain ⟨⟨⟨h1, h2⟩, h3⟩, h⟩ := h
    have h1 : o + vs.length ≤ n := ble_le h1
    have hb : C.n0 ≤ b := ble_le h2
    obtain ⟨arr, ty, lo, hi, a1, a2, a3, a4⟩ := hr.obj b _ ho hd
    have hns : st ≠ .stale := fun e => (by subst e; simp at h)
    refine ⟨w.setRow (φ b).blk (setMs arr ((φ b).sh + o) (concs φ vs)), ?_, ?_⟩
    · exact run_store_row C.P _ _ ty lo hi (concs φ vs) 0 arr w a1 (a2.free hns) (by rw [concs_len]; omega) (ones_conc h3)
    have hrow := setRow_heap w (φ b).blk arr (setMs arr ((φ b).sh + o) (concs φ vs)) ty (lo, hi) a1
    have hbase := hr.base b _ hb ho hd
    have hbel : Below B w (w.setRow (φ b).blk (setMs arr ((φ b).sh + o) (concs φ vs))) := below_setRow hbase _ _
    have hoth : ∀ k, k ≠ (φ b).blk → (w.setRow (φ b).blk (setMs arr ((φ b).sh + o) (concs φ vs))).heap[k]? = w.heap[k]? := fun k hk => setRow_other w _ k _ hk
    have fin : ∀ st', StRel st' n (φ b) arr.size lo hi ty → ORel C φ D (.cells (writeN c o vs) n st') (φ b) (w.setRow (φ b).blk (setMs arr ((φ b).sh + o) (concs φ vs))) := by
      intro st' hst
      refine ⟨_, ty, lo, hi, hrow, by rw [setMs_size]; exact hst, by rw [setMs_size]; exact a3, writeN_rel hg h1 a3 a4⟩
    have plain : ∀ st', Alone (.cells c n st) → StRel st' n (φ b) arr.size lo hi ty → (∀ l, st' ≠ .grow l) → S' = hset C S b (some (.cells (writeN c o vs) n st')) →
        HRel C φ D S' nx B (w.setRow (φ b).blk (setMs arr ((φ b).sh + o) (concs φ vs))) ∧ Ext C lim φ D S B w φ D S' (w.setRow (φ b).blk (setMs arr ((φ b).sh + o) (concs φ vs))) := by
      intro st' hal hst hng hS
      subst hS
      have hself : hget C (hset C S b (some (.cells (writeN c o vs) n st'))) b = some (.cells (writeN c o vs) n st') := by rw [hget_hset _ hb, if_pos rfl]
      have helse : ∀ x, x ≠ b → hget C (hset C S b (some (.cells (writeN c o vs) n st'))) x = hget C S x := fun x hx => by rw [hget_hset _ hb, if_neg hx]
      refine ⟨hr.put hb hd ho hself (fun x hx => .inl (helse x hx)) hoth ?_ (fin st' hst) ⟨fun c' n' l hl => (by cases hl; exact absurd rfl (hng _)), fun c' n' st'' hl => (by cases hl; exact writeN_lt h1 ((hr.olds b _ ho hd).2 _ _ _ rfl))⟩, ?_⟩
      · intro x ox hne hx dx heq
        rw [helse x hne] at hx
        exact hr.alone hb hd ho hal x ox hne hx dx heq
      · exact ⟨fun _ _ => rfl, fun _ h => h, fun _ h => .inl h, fun x hx _ => helse x (fun e => hx (e ▸ hd)), hbel⟩
    cases st with
    | own =>
      simp only [forceTr_eq, Option.some.injEq] at h
      exact plain .own ⟨by simp, by simp⟩ a2 (by simp) h.symm
    | marked =>
      simp only [forceTr_eq, Option.some.injEq] at h
      exact plain .marked ⟨by simp, by simp⟩ a2 (by simp) h.symm
    | grow olds =>
      simp only [forceTr_eq, Option.some.injEq] at h
      have hol := (hr.olds b _ ho hd).1 _ _ _ rfl
      subst h
      have hself : hget C (hset C (killAll C olds.l S) b (some (.cells (writeN c o vs) n (.grow ⟨[], olds.ty⟩)))) b = some (.cells (writeN c o vs) n (.grow ⟨[], olds.ty⟩)) := by rw [hget_hset _ hb, if_pos rfl]
      have helse : ∀ x, x ≠ b → hget C (hset C (killAll C olds.l S) b (some (.cells (writeN c o vs) n (.grow ⟨[], olds.ty⟩)))) x = if x ∈ olds.l then none else hget C S x := fun x hx => by
        rw [hget_hset _ hb, if_neg hx, hget_killAll _ _ _ fun y hy => (hol y hy).2]
      refine ⟨hr.put hb hd ho hself (fun x hx => ?_) hoth ?_ (fin (.grow ⟨[], olds.ty⟩) a2) ⟨fun c' n' l hl => (by cases hl; simp), fun c' n' st'' hl => (by cases hl; exact writeN_lt h1 ((hr.olds b _ ho hd).2 _ _ _ rfl))⟩, ?_⟩
      · rw [helse x hx]; split
        · exact .inr rfl
        · exact .inl rfl
      · intro x ox hne hx dx heq
        rw [helse x hne] at hx
        split at hx
        · cases hx
        · rename_i hni
          rcases (hr.sep b x _ ox ho hx hd dx (fun q => hne q.symm) hb heq.symm).1 with ⟨_, _, _, _, q, _⟩ | ⟨_, _, l, _, _, q, _, hl, _⟩ | ⟨_, _, _, _, _, _, q, _⟩
          · cases q
          · cases q; exact hni hl
          · cases q
      · exact ⟨fun _ _ => rfl, fun _ h => h, fun _ h => .inl h, fun x hx _ => by
          rw [helse x (fun e => hx (e ▸ hd)), if_neg (fun hm => hx (hol x hm).1)], hbel⟩
    | stale => simp at h
    | typed t =>
      simp only [forceTr_eq, Option.some.injEq] at h
      exact plain (.typed t) ⟨by simp, by simp⟩ a2 (by simp) h.symm
  · simp at h
end
end Go.AE

namespace Go.AE
open Go.RowKit (Below)

/-- what an operation does that writes or makes -/
def Done (C : Cfg) (φ : Phi) (D : Nat → Prop) (S : Tr AObj) (nx B : Nat) (w : World) (s : Sem Next) (v : AV) (S' : Tr AObj) (nx' : Nat) : Prop :=
  ∃ φ' D' w' n, s.run C.P w = .ok n w' ∧ (n = .value (conc φ' v) ∨ (n = .skip ∧ v = undef)) ∧ good D' v ∧ HRel C φ' D' S' nx' B w' ∧ Ext C nx φ D S B w φ' D' S' w' ∧ nx ≤ nx'
section
variable {C : Cfg} {φ φ' : Phi} {D D' : Nat → Prop} {S S' : Tr AObj} {nx nx' B : Nat} {w w' : World}

/-- an object that is no row of cells is laid anew -/
theorem putObj (hr : HRel C φ D S nx B w) {lim b : Nat} {ob ob' : AObj} {o0 o' : Obj} (hb : C.n0 ≤ b) (hd : D b) (hob : hget C S b = some ob) (ha : Alone ob) (h0 : w.heap[(φ b).blk]? = some o0)
    (hnc : ∀ c e f, o0 ≠ .cells c e f) (ho : ∀ w' : World, w'.heap[(φ b).blk]? = some o' → ORel C φ D ob' (φ b) w') (hol : OldsIn C D ob') :
    ∃ w', (Go.setObj (φ b).blk o').run C.P w = .ok () w' ∧ HRel C φ D (hset C S b (some ob')) nx B w' ∧ Ext C lim φ D S B w φ D (hset C S b (some ob')) w' := by
  have hrun : (Go.setObj (φ b).blk o').run C.P w = .ok () { w with heap := w.heap.setIfInBounds (φ b).blk o' } := by
    cases o0 <;> first
      | exact absurd rfl (hnc _ _ _)
      | simp [Go.setObj, Sem.run, h0]
  obtain ⟨k1, k2⟩ := MapKept.heap_set (o' := o') h0
  have hself : hget C (hset C S b (some ob')) b = some ob' := by rw [hget_hset _ hb, if_pos rfl]
  have helse : ∀ x, x ≠ b → hget C (hset C S b (some ob')) x = hget C S x := fun x hx => by rw [hget_hset _ hb, if_neg hx]
  have hbase := hr.base b _ hb hob hd
  refine ⟨_, hrun, hr.put hb hd hob hself (fun x hx => .inl (helse x hx)) (fun k hk => k2 k hk) ?_ (ho _ k1) hol, ?_⟩
  · intro x ox hne hx dx heq
    rw [helse x hne] at hx
    exact hr.alone hb hd hob ha x ox hne hx dx heq
  · exact ⟨fun _ _ => rfl, fun _ h => h, fun _ h => .inl h, fun x hx _ => helse x (fun e => hx (e ▸ hd)), rfl, rfl, rfl, by simp, fun k hk => k2 k (by omega)⟩
theorem setObj_some {r : Nat} {o : AObj} {v v' : AV} {n' : Nat} (h : setObj C S nx r o v = some (.vals v' S' n')) : C.n0 ≤ r ∧ v' = v ∧ S' = hset C S r (some o) ∧ n' = nx := by
  unfold setObj at h
  simp only [forceTr_eq, cnd_none, Option.some.injEq, ARes.vals.injEq] at h
  exact ⟨ble_le h.1, h.2.1.symm, h.2.2.1.symm, h.2.2.2.symm⟩
theorem setObj_vals {r : Nat} {o : AObj} {v : AV} {res : ARes} (h : setObj C S nx r o v = some res) : res = .vals v (hset C S r (some o)) nx ∧ C.n0 ≤ r := by
  unfold setObj at h
  simp only [forceTr_eq, cnd_none, Option.some.injEq] at h
  exact ⟨h.2.symm, ble_le h.1⟩
/-- a map laid anew -/
theorem putMap (hr : HRel C φ D S nx B w) {lim r : Nat} {es es' : List (AV × AV × Nat)} {clock clock' : Nat} {arr' : Array MapEntry} (hb : C.n0 ≤ r) (hd : D r) (ho : hget C S r = some (.map es clock))
    (ha : arr'.toList = es'.map (entryOf φ)) (hg : ∀ e ∈ es', good D e.1 ∧ good D e.2.1) :
    ∃ w', (Go.setObj (φ r).blk (.map arr' clock')).run C.P w = .ok () w' ∧ HRel C φ D (hset C S r (some (.map es' clock'))) nx B w' ∧ Ext C lim φ D S B w φ D (hset C S r (some (.map es' clock'))) w' := by
  obtain ⟨arr, h1, _, _⟩ := hr.obj r _ ho hd
  exact putObj hr hb hd ho ⟨by simp, by simp⟩ h1 (by simp) (fun w' hw' => ⟨arr', hw', ha, hg⟩) ⟨fun _ _ _ h => (by cases h), fun _ _ _ h => (by cases h)⟩

/-! ### Stores -/
theorem storeTo_sound (hr : HRel C φ D S nx B w) {s : Nat} {t : TypeId} {a v : AV} {res : ARes} (hs : szOf C t = some s) (ga : good D a) (gv : good D v) (h : storeTo C S nx s a v = some res) :
    ∃ S', res = .vals undef S' nx ∧ ∀ u : Sem Next, (∀ w', (Instr.storeAt t (conc φ a) (conc φ v)).run C.P w = .ok () w' → u.run C.P w = .ok .skip w') → Done C φ D S nx B w u undef S' nx := by
  unfold storeTo at h
  split at h
  · rename_i b o
    simp only [cnd_none, Bool.and_eq_true] at h
    obtain ⟨⟨h1, h2⟩, h⟩ := h
    have h1 : v.cells.length = s := Nat.eq_of_beq_eq_true h1
    split at h
    · rename_i S' hS
      simp at h
      obtain ⟨w', k1, k2, k3⟩ := aWrite_sound hr (lim := nx) ga (cells_good gv) hS
      refine ⟨S', h.symm, fun u hu => ⟨φ, D, w', .skip, hu w' ?_, .inr ⟨rfl, rfl⟩, by trivial, k2, k3, Nat.le_refl _⟩⟩
      have hsz : (conc φ v).cells.size = s := by rw [cells_conc]; simp [concs_len, h1]
      simp only [Instr.storeAt, Instr.sureAddr, conc, Sem.run_bind, Sem.run_pure, Result.andThen_ok, storeVar, run_szOf hs, hsz, ne_eq, not_true_eq_false, if_false]
      simp only [cells_conc]
      exact k1
    · simp at h
  · simp at h

/-! ### Maps, written -/
theorem keySame_sound : ∀ (n : Nat), (∀ (m : Nat) (x y : AV), n ≤ m → good D x → good D y → keySame n x y = true → Instr.sameBits m (conc φ x) (conc φ y) = true) ∧
    ∀ (m : Nat) (a b : List AV), n ≤ m → goods D a → goods D b → keySame.keysSame n a b = true → (concs φ a).length = (concs φ b).length ∧ ((concs φ a).zip (concs φ b)).all (fun (x, y) => Instr.sameBits m x y) = true := by
  intro n
  induction n with
  | zero =>
    refine ⟨fun m x y _ _ _ h => by simp [keySame] at h, ?_⟩
    intro m a
    induction a with
    | nil => intro b _ _ _ h; cases b <;> simp [keySame.keysSame] at h <;> simp [concs]
    | cons x a _ => intro b _ _ _ h; cases b <;> simp [keySame.keysSame, keySame] at h
  | succ n ih =>
    have one : ∀ (m : Nat) (x y : AV), n + 1 ≤ m → good D x → good D y → keySame (n + 1) x y = true → Instr.sameBits m (conc φ x) (conc φ y) = true := by
      intro m x y hm gx gy h
      obtain ⟨m, rfl⟩ : ∃ k, m = k + 1 := ⟨m - 1, by omega⟩
      unfold keySame at h
      split at h <;> (try (cases h; done))
      · simpa [conc, Instr.sameBits] using h
      · simp at h; obtain ⟨rfl, rfl⟩ := h; simp [conc, Instr.sameBits]
      · rename_i a b
        have := (natsEq_iff _ _).1 h
        subst this
        simp only [conc, Instr.sameBits]
        rw [bytes_beq]; simp
      · rename_i b o b' o'
        simp only [Bool.and_eq_true] at h
        have h1 : b = b' := Nat.eq_of_beq_eq_true h.1
        have h2 : o = o' := Nat.eq_of_beq_eq_true h.2
        subst h1; subst h2
        simp [conc, Instr.sameBits]
      · simp [conc, Instr.sameBits]
      · simp [conc, Instr.sameBits]
      · rename_i t v t' v'
        simp only [Bool.and_eq_true] at h
        have h1 : t = t' := Nat.eq_of_beq_eq_true h.1
        subst h1
        simp [conc, Instr.sameBits, ih.1 m v v' (by omega) gx gy h.2]
      · rename_i a b
        obtain ⟨k1, k2⟩ := ih.2 m a b (by omega) gx gy h
        simp only [conc, Instr.sameBits, Bool.and_eq_true, beq_iff_eq]
        exact ⟨by simpa using k1, by simpa using k2⟩
    refine ⟨one, ?_⟩
    intro m a
    induction a with
    | nil => intro b _ _ _ h; cases b <;> simp [keySame.keysSame] at h <;> simp [concs]
    | cons x a iha =>
      intro b hm ga gb h
      cases b with
      | nil => simp [keySame.keysSame] at h
      | cons y b =>
        simp only [keySame.keysSame, Bool.and_eq_true] at h
        obtain ⟨k1, k2⟩ := iha b hm ga.2 gb.2 h.2
        simp only [concs, List.length_cons, List.zip_cons_cons, List.all_cons, Bool.and_eq_true]
        exact ⟨by omega, one m x y hm ga.1 gb.1 h.1, k2⟩
theorem keyStays {old new : AV} (go : good D old) (gn : good D new) (h : keySame 20 old new = true) : (Instr.keyThatStays (conc φ old) (conc φ new)).run C.P w = .ok (conc φ new) w := by
  simp [Instr.keyThatStays, (keySame_sound (φ := φ) (D := D) 20).1 10000 old new (by decide) go gn h]
theorem entry_at {arr : Array MapEntry} {es : List (AV × AV × Nat)} {i : Nat} {e : AV × AV × Nat} (ha : arr.toList = es.map (entryOf φ)) (h : es[i]? = some e) : arr[i]? = some (entryOf φ e) := by
  rw [← Array.getElem?_toList, ha, List.getElem?_map, h]; rfl
theorem modify_entries {arr : Array MapEntry} {es : List (AV × AV × Nat)} {i : Nat} {e e' : AV × AV × Nat} (f : MapEntry → MapEntry) (ha : arr.toList = es.map (entryOf φ)) (h : es[i]? = some e)
    (hf : f (entryOf φ e) = entryOf φ e') : (arr.modify i f).toList = (es.set i e').map (entryOf φ) := by
  apply List.ext_getElem?
  intro j
  rw [Array.getElem?_toList, Array.getElem?_modify, List.getElem?_map, List.getElem?_set]
  have hlt : i < es.length := (List.getElem?_eq_some_iff.1 h).1
  by_cases e : i = j
  · subst e
    rw [if_pos rfl, if_pos rfl, if_pos hlt, entry_at ha h]
    simp [hf]
  · rw [if_neg e, if_neg e, ← Array.getElem?_toList, ha, List.getElem?_map]
theorem good_set {es : List (AV × AV × Nat)} {i : Nat} {e' : AV × AV × Nat} (hg : ∀ e ∈ es, good D e.1 ∧ good D e.2.1) (he : good D e'.1 ∧ good D e'.2.1) : ∀ e ∈ es.set i e', good D e.1 ∧ good D e.2.1 := by
  intro e h
  rcases List.mem_or_eq_of_mem_set h with h | h
  · exact hg e h
  · rw [h]; exact he
theorem aMapSet_sound (hr : HRel C φ D S nx B w) {t : Nat} {m k v : AV} {res : ARes} (gm : good D m) (gk : good D k) (gv : good D v) (h : aMapSet C S nx t m k v = some res) :
    ∃ S' w', res = .vals undef S' nx ∧ (Instr.mapUpdate t (conc φ m) (conc φ k) (conc φ v)).run C.P w = .ok () w' ∧ HRel C φ D S' nx B w' ∧ Ext C nx φ D S B w φ D S' w' := by
  unfold aMapSet at h
  split at h
  · rename_i kt et r hu
    split at h
    · rename_i es clock ho
      simp only [cnd_none] at h
      obtain ⟨hk, h⟩ := h
      obtain ⟨kd, hkd⟩ := keyType_some hk
      obtain ⟨arr, a1, a2, a3, a4⟩ := map_of_rel hr gm ho
      have h1 := aKeyOk_sound (C := C) (φ := φ) (D := D) (w := w) (e := false) 20 10000 kt k (by decide) gk hk
      split at h
      · rename_i i u hf
        have h2 := findKey_sound hr hkd gk a4 hf
        obtain ⟨_, e, he, rfl⟩ := findKey_good es 0 i u hf
        simp only [Nat.sub_zero] at he
        rw [nth_eq, he] at h
        obtain ⟨k', v', born⟩ := e
        simp only [cnd_none] at h
        obtain ⟨hks, h⟩ := h
        obtain ⟨rfl, hb⟩ := setObj_vals h
        have hg := a4 _ (List.mem_of_getElem? he)
        obtain ⟨w', k1, k2, k3⟩ := putMap hr (lim := nx) hb gm ho (clock' := clock) (es' := es.set i (k, v, born)) (modify_entries (fun e => { e with key := conc φ k, val := conc φ v }) a3 he rfl) (good_set a4 ⟨gk, gv⟩)
        refine ⟨_, w', rfl, ?_, k2, k3⟩
        simp [Instr.mapUpdate, run_underlying hu, conc, a1, h1, a3, h2, cFound, entry_at a3 he, entryOf, keyStays hg.1 gk hks, k1]
      · rename_i hf
        have h2 := findKey_sound hr hkd gk a4 hf
        obtain ⟨rfl, hb⟩ := setObj_vals h
        obtain ⟨w', k1, k2, k3⟩ := putMap hr (lim := nx) hb gm ho (clock' := clock + 1) (es' := es ++ [(k, v, clock)]) (arr' := arr.push { key := conc φ k, val := conc φ v, born := clock }) (by simp [a3, entryOf])
          (fun e he => (List.mem_append.1 he).elim (a4 e) (fun he => by simp at he; subst he; exact ⟨gk, gv⟩))
        refine ⟨_, w', rfl, ?_, k2, k3⟩
        simp [Instr.mapUpdate, run_underlying hu, conc, a1, h1, a3, h2, cFound, k1]
      · simp at h
    · simp at h
  · simp at h
end
end Go.AE

namespace Go.AE
open Go.RowKit (Below)

/-! ### append, in the model's words -/
theorem growBy_le (newLen M : Nat) (hM : newLen + (newLen + 768) / 4 ≤ M) : ∀ (r c : Nat), c ≤ M → Builtin.growBy newLen r c ≤ M := by
  intro r
  induction r with
  | zero => intro c h; exact h
  | succ r ih =>
    intro c h
    simp only [Builtin.growBy]
    split
    · exact h
    · exact ih _ (by omega)
theorem nextslicecap_le {newLen oldCap : Nat} (h : oldCap < newLen) : Builtin.nextslicecap newLen oldCap ≤ 2 * newLen + 200 := by
  unfold Builtin.nextslicecap
  split
  · omega
  · split
    · omega
    · exact growBy_le newLen _ (by omega) 4 oldCap (by omega)
theorem room_ok {newLen oldCap bytes : Nat} (h : oldCap < newLen) (hn : newLen ≤ 1048576) (hb : bytes ≤ 65536) : ¬ (Builtin.nextslicecap newLen oldCap * bytes > 2 ^ 48) := by
  have h1 := nextslicecap_le h
  have h2 : Builtin.nextslicecap newLen oldCap * bytes ≤ (2 * 1048576 + 200) * 65536 := Nat.mul_le_mul (by omega) hb
  have h3 : (2 : Nat) ^ 48 = 281474976710656 := by decide
  omega
theorem need_ok {need : Nat} (hn : need ≤ 1048576) : ¬ ((need : Int) > IntKind.i64.max) := by
  have : IntKind.i64.max = 9223372036854775807 := by decide
  omega
theorem wrap_small {n : Nat} (hn : n ≤ 1048576) : IntKind.i64.wrap (n : Int) = n := by
  rw [← wrapF_eq]
  simp only [wrapF, cnd_ite, decide_eq_true_eq]
  have h1 : (n : Int) % 18446744073709551616 = n := Int.emod_eq_of_lt (by omega) (by omega)
  rw [h1, if_pos (by omega)]
theorem bytes_ok {n b : Nat} (h1 : n ≤ 1048576) (h2 : b ≤ 65536) : ¬ ((281474976710656 : Int) < (n : Int) * (b : Int)) := by
  have h3 : n * b ≤ 1048576 * 65536 := Nat.mul_le_mul h1 h2
  have : ((n * b : Nat) : Int) ≤ ((1048576 * 65536 : Nat) : Int) := Int.ofNat_le.2 h3
  rw [Int.natCast_mul] at this
  omega
/-- what is appended: n elements, these cells -/
def Appends (P : Program) (w : World) (dx : TypeDesc) (X : Value) (i : TypeInfo) (z : Value) (n : Nat) (new : Array Value) : Prop :=
  ((dx = .string ∨ ∃ e, dx = .slice e) ∧ (Builtin.lenOf X).run P w = .ok n w ∧ (Builtin.firstCells i.size n X).run P w = .ok new w ∧ (Builtin.firstCells i.size n X).run P w.drew = .ok new w.drew) ∨
  ((∃ q, dx = .int q) ∧ (∃ k, X = .int k (Int.ofNat n)) ∧ n ≤ 1048576 ∧ i.bytes ≤ 65536 ∧ n * i.size ≠ 0 ∧ new = Builtin.zeroCells z.cells n)
section
variable {P : Program} {w w' : World} {ats : Array TypeId} {ty st xt elem : TypeId} {i : TypeInfo} {dx : TypeDesc} {base : Option Addr} {sLen sCap n : Nat} {X z : Value} {old new : Array Value}
set_option maxHeartbeats 1000000 in
theorem append_room {a : Addr} (h0 : ats[0]? = some st) (h1 : ats[1]? = some xt) (hst : P.underlying st = some (.slice elem)) (hxt : P.underlying xt = some dx) (hi : P.info? elem = some i) (hz : i.zero = some z)
    (hX : Appends P w dx X i z n new) (hn : sLen + n ≤ sCap) (hs : (storeCells (a.add (sLen * i.size)) new.toList).run P w = .ok () w') :
    (Builtin.append_ ats ty #[.slice (some a) sLen sCap, X]).run P w = .ok (.slice (some a) (sLen + n) sCap) w' := by
  have e0 : (#[Value.slice (some a) sLen sCap, X] : Array Value)[0]? = some (.slice (some a) sLen sCap) := rfl
  have e1 : (#[Value.slice (some a) sLen sCap, X] : Array Value)[1]? = some X := rfl
  clear e0 e1
  rcases hX with ⟨x1, x2, x3, _⟩ | ⟨⟨q, rfl⟩, ⟨k, rfl⟩, x2, x3, x4, rfl⟩
  · rcases x1 with rfl | ⟨_, rfl⟩ <;> simp [Builtin.append_, h0, h1, run_underlying hst, run_underlying hxt, sizeOf, typeInfo, hi, x2, hn, x3, hs]
  · have hl2 := bytes_ok x2 x3
    have hl : ¬ ((n : Int) < 0) := by omega
    have hw := wrap_small x2
    simp [Builtin.append_, h0, h1, run_underlying hst, run_underlying hxt, sizeOf, typeInfo, hi, asInt, asIntOf, hw, hl2, hl, hn, x4, zeroValue, hz, hs]
/-- the room that a new row is given -/
theorem append_grow (h0 : ats[0]? = some st) (h1 : ats[1]? = some xt) (hst : P.underlying st = some (.slice elem)) (hxt : P.underlying xt = some dx) (hi : P.info? elem = some i) (hz : i.zero = some z)
    (hX : Appends P w dx X i z n new) (hn : ¬ (sLen + n ≤ sCap)) (hb : i.bytes ≤ 65536) (hneed : sLen + n ≤ 1048576) (ho : (Builtin.firstCells i.size sLen (.slice base sLen sCap)).run P w.drew = .ok old w.drew) :
    ∃ cap, sLen + n ≤ cap ∧ (Builtin.append_ ats ty #[.slice base sLen sCap, X]).run P w =
      .ok (.slice (some ⟨w.heap.size, 0, none⟩) (sLen + n) cap) (w.drew.alloc (.cells (old ++ new ++ Builtin.zeroCells z.cells (cap - (sLen + n))) elem)) := by
  have hr := room_ok (newLen := sLen + n) (oldCap := sCap) (by omega) hneed hb
  have hr' : ¬ (281474976710656 < Builtin.nextslicecap (sLen + n) sCap * i.bytes) := by
    have h3 : (2 : Nat) ^ 48 = 281474976710656 := by decide
    omega
  have hm : ¬ ((9223372036854775807 : Int) < (sLen : Int) + (n : Int)) := by omega
  refine ⟨sLen + n + (w.tape w.drawn (.appendCap (sLen + n) sCap elem)) % (2 ^ 63 - (sLen + n)), by omega, ?_⟩
  have hsz : w.drew.heap.size = w.heap.size := rfl
  have hmax : IntKind.i64.max = 9223372036854775807 := by decide
  rcases hX with ⟨x1, x2, x3, x4⟩ | ⟨⟨q, rfl⟩, ⟨k, rfl⟩, x2, x3, x4, rfl⟩
  · rcases x1 with rfl | ⟨_, rfl⟩ <;>
      simp [Builtin.append_, h0, h1, run_underlying hst, run_underlying hxt, sizeOf, typeInfo, hi, x2, hn, x4, zeroValue, hz, hmax, hm, hr', Question.forced, Question.cut, ho, newRow, hsz]
  · have hl2 := bytes_ok x2 x3
    have hl : ¬ ((n : Int) < 0) := by omega
    have hw := wrap_small x2
    simp [Builtin.append_, h0, h1, run_underlying hst, run_underlying hxt, sizeOf, typeInfo, hi, asInt, asIntOf, hw, hl2, hl, hn, x4, zeroValue, hz, hmax, hm, hr', Question.forced, Question.cut, ho, newRow, hsz]
end
end Go.AE

namespace Go.AE
open Go.RowKit (Below)
/-- what is asked of the program, once -/
structure PF (P : Program) : Prop where
  mixed : P.follows .mixedOrders = true
  num : ∀ (f : Nat) fn, P.funcs[f]? = some fn → fn.body.isSome = true → (fn.name == "runtime.NumGoroutine") = false
section
variable {C : Cfg} {φ φ' : Phi} {D D' : Nat → Prop} {S S' : Tr AObj} {nx nx' B : Nat} {w w' : World}

theorem HRel.same (hr : HRel C φ D S nx B w) (hw : w'.heap = w.heap) : HRel C φ D S nx B w' :=
  ⟨hr.n0, hr.lt, hr.olt, fun b o h d => (hr.obj b o h d).keep (fun _ _ => rfl) (fun _ h => h) (by rw [hw]), hr.sep, hr.base, hr.olds⟩
theorem HRel.drew (hr : HRel C φ D S nx B w) : HRel C φ D S nx B w.drew := hr.same rfl
/-- a growing slice becomes an elder version -/
theorem HRel.retire (hr : HRel C φ D S nx B w) {b : Nat} {c : Tr AV} {n : Nat} {olds : Ols} (hb : C.n0 ≤ b) (hd : D b) (hob : hget C S b = some (.cells c n (.grow olds))) :
    HRel C φ D (hset C S b (some (.cells c n .stale))) nx B w := by
  have hself : hget C (hset C S b (some (.cells c n .stale))) b = some (.cells c n .stale) := by rw [hget_hset _ hb, if_pos rfl]
  have helse : ∀ x, x ≠ b → hget C (hset C S b (some (.cells c n .stale))) x = hget C S x := fun x hx => by rw [hget_hset _ hb, if_neg hx]
  refine ⟨hr.n0, hr.lt, ?_, ?_, ?_, ?_, ?_⟩
  · intro x ox hx
    by_cases e : x = b
    · subst e; exact hr.lt x hd
    · exact hr.olt x ox (by rw [← helse x e, hx])
  · intro x ox hx dx
    by_cases e : x = b
    · subst e
      rw [hself] at hx; cases hx
      obtain ⟨arr, ty, lo, hi, h1, h2, h3, h4⟩ := hr.obj x _ hob hd
      exact ⟨arr, ty, lo, hi, h1, ⟨trivial, h2.2⟩, h3, h4⟩
    · exact hr.obj x ox (by rw [← helse x e, hx]) dx
  · intro x y ox oy hx hy dx dy hne hxn heq
    by_cases e : x = b
    · subst e
      rw [hself] at hx; cases hx
      rw [helse y fun q => hne q.symm] at hy
      obtain ⟨h1, h2⟩ := hr.sep x y _ oy hob hy dx dy hne hxn heq
      refine ⟨?_, h2⟩
      rcases h1 with ⟨_, _, _, _, q, _⟩ | ⟨_, _, l, c', n', q, q2, hl⟩ | ⟨_, _, _, _, _, _, q, _⟩
      · cases q
      · exact .inl ⟨c, n, c', n', rfl, q2⟩
      · cases q
    · rw [helse x e] at hx
      by_cases e2 : y = b
      · subst e2
        rw [hself] at hy; cases hy
        obtain ⟨h1, h2⟩ := hr.sep x y ox _ hx hob dx dy hne hxn heq
        refine ⟨?_, h2⟩
        rcases h1 with ⟨_, _, _, _, _, q⟩ | ⟨_, _, l, c', n', _, q, hl⟩ | ⟨c', n', _, _, _, q, q2, _⟩
        · cases q
        · cases q
        · exact .inl ⟨c', n', c, n, q2, rfl⟩
      · rw [helse y e2] at hy
        exact hr.sep x y ox oy hx hy dx dy hne hxn heq
  · intro x ox hxn hx dx
    by_cases e : x = b
    · subst e; exact hr.base x _ hxn hob hd
    · exact hr.base x ox hxn (by rw [← helse x e, hx]) dx
  · intro x ox hx dx
    by_cases e : x = b
    · subst e
      rw [hself] at hx; cases hx
      have := (hr.olds x _ hob hd).2 _ _ _ rfl
      exact ⟨fun _ _ _ h => (by cases h), fun _ _ _ h => (by cases h; exact this)⟩
    · exact hr.olds x ox (by rw [← helse x e, hx]) dx
/-- a new number for a block that is there -/
theorem HRel.share (hr : HRel C φ D S nx B w) {blk : Nat} {pl : Pl} {ob : AObj} (hB : B ≤ blk) (hpl : pl.blk = blk) (hw : ∀ k, k ≠ blk → w'.heap[k]? = w.heap[k]?)
    (ho : ORel C (upd φ nx pl) (add D nx) ob pl w') (hol : OldsIn C (add D nx) ob)
    (hx : ∀ x ox, hget C S x = some ox → D x → (φ x).blk = blk → ORel C φ D ox (φ x) w' ∧ Share ob ox nx x ∧ Share ox ob x nx ∧ pl.sh = (φ x).sh) :
    HRel C (upd φ nx pl) (add D nx) (hset C S nx (some ob)) (nx + 1) B w' := by
  have hb := hr.n0
  have hn : ¬ D nx := fun h => by have := hr.lt nx h; omega
  have hφ := upd_keep (φ := φ) (pl := pl) hn
  have hself : hget C (hset C S nx (some ob)) nx = some ob := by rw [hget_hset _ hb, if_pos rfl]
  have helse : ∀ x, x ≠ nx → hget C (hset C S nx (some ob)) x = hget C S x := fun x hx => by rw [hget_hset _ hb, if_neg hx]
  have dd : ∀ x, add D nx x → x ≠ nx → D x := fun x h hne => h.resolve_right hne
  refine ⟨by omega, ?_, ?_, ?_, ?_, ?_, ?_⟩
  · intro x h
    rcases h with h | h
    · have := hr.lt x h; omega
    · omega
  · intro x ox h
    by_cases e : x = nx
    · omega
    · have := hr.olt x ox (by rw [← helse x e, h]); omega
  · intro x ox h dx
    by_cases e : x = nx
    · subst e; rw [hself] at h; cases h; rw [upd_self]; exact ho
    · rw [helse x e] at h
      have dx := dd x dx e
      rw [hφ x dx]
      by_cases q : (φ x).blk = blk
      · exact (hx x ox h dx q).1.keep hφ (fun _ h => .inl h) rfl
      · exact (hr.obj x ox h dx).keep hφ (fun _ h => .inl h) (hw _ q)
  · intro x y ox oy h1 h2 dx dy hne hxn heq
    by_cases e : x = nx
    · subst e
      rw [hself] at h1; cases h1
      have hy : y ≠ x := fun q => hne q.symm
      rw [helse y hy] at h2
      have dy := dd y dy hy
      rw [upd_self, hφ y dy] at heq ⊢
      obtain ⟨_, g2, _, g4⟩ := hx y oy h2 dy (by rw [← heq, hpl])
      exact ⟨g2, g4⟩
    · rw [helse x e] at h1
      have dx' := dd x dx e
      by_cases e2 : y = nx
      · subst e2
        rw [hself] at h2; cases h2
        rw [upd_self, hφ x dx'] at heq ⊢
        obtain ⟨_, _, g3, g4⟩ := hx x ox h1 dx' (by rw [heq, hpl])
        exact ⟨g3, g4.symm⟩
      · rw [helse y e2] at h2
        have dy' := dd y dy e2
        rw [hφ x dx', hφ y dy'] at heq ⊢
        exact hr.sep x y ox oy h1 h2 dx' dy' hne hxn heq
  · intro x ox hxn h dx
    by_cases e : x = nx
    · subst e; rw [upd_self, hpl]; exact hB
    · rw [helse x e] at h
      have dx := dd x dx e
      rw [hφ x dx]
      exact hr.base x ox hxn h dx
  · intro x ox h dx
    by_cases e : x = nx
    · subst e; rw [hself] at h; cases h; exact hol
    · rw [helse x e] at h
      have dx := dd x dx e
      refine ⟨fun c n l hl y hy => ?_, (hr.olds x ox h dx).2⟩
      obtain ⟨g1, g2⟩ := (hr.olds x ox h dx).1 c n l hl y hy
      exact ⟨.inl g1, g2⟩

theorem len_of_getN {c : Tr AV} {o n : Nat} {l : List AV} (h : c.getN o n = some l) : l.length = n := (Tr.getN_spec _ _ _ _ h).1
theorem cellsAt_len {b o n : Nat} {l : List AV} (h : cellsAt C S b o n = some l) : l.length = n := by
  unfold cellsAt at h
  split at h
  · exact len_of_getN h
  · simp only [cnd_none, Option.some.injEq] at h
    have : n = 0 := Nat.eq_of_beq_eq_true h.1
    rw [← h.2, this]; rfl
theorem zeroCells_repl (φ : Phi) (z : AV) (n : Nat) : Builtin.zeroCells (conc φ z).cells n = (concs φ (repl n z.cells)).toArray := by
  rw [cells_conc, ← range_repl]
  simp [Builtin.zeroCells, concs_len]
theorem strCellsA (φ : Phi) (s : List Nat) (hs : ∀ x ∈ s, x < 256) : ((bytesOf s).data.map fun b => Value.int .u8 b.toNat) = (concs φ (s.map fun n => AV.int .u8 (Int.ofNat n))).toArray := by
  apply Array.ext'
  simp only [bytesOf, concs_eq, List.map_map]
  simp only [List.map_toArray, List.map_map]
  apply List.map_congr_left
  intro x hx
  simp [conc, Nat.mod_eq_of_lt (hs x hx)]
theorem src_sound (hr : HRel C φ D S nx B w) {x : AV} {i : TypeInfo} {z : Value} {dx : TypeDesc} {n : Nat} {l : List AV} (gx : good D x) (hdx : dx = .string ∨ ∃ e, dx = .slice e) (h : srcCells C S i.size x = some (n, l)) :
    Appends C.P w dx (conc φ x) i z n (concs φ l).toArray ∧ goods D l ∧ l.length = n * i.size := by
  unfold srcCells at h
  split at h
  · simp at h; obtain ⟨rfl, rfl⟩ := h
    refine ⟨.inl ⟨hdx, ?_, ?_, ?_⟩, trivial, by simp⟩ <;> simp [conc, Builtin.lenOf, Builtin.firstCells, concs]
  · rename_i b o len cap
    split at h
    · rename_i l' hl
      simp at h; obtain ⟨rfl, rfl⟩ := h
      obtain ⟨h1, h2⟩ := cellsAt_of hr gx hl
      obtain ⟨h3, _⟩ := cellsAt_of hr.drew gx hl
      refine ⟨.inl ⟨hdx, ?_, ?_, ?_⟩, h2, cellsAt_len hl⟩ <;> simp [conc, Builtin.lenOf, Builtin.firstCells, h1, h3]
    · simp at h
  · rename_i b o len cap
    split at h
    · rename_i l' hl
      simp at h; obtain ⟨rfl, rfl⟩ := h
      obtain ⟨h1, h2⟩ := cellsAt_of hr gx hl
      obtain ⟨h3, _⟩ := cellsAt_of hr.drew gx hl
      refine ⟨.inl ⟨hdx, ?_, ?_, ?_⟩, h2, cellsAt_len hl⟩ <;> simp [conc, Builtin.lenOf, Builtin.firstCells, h1, h3]
    · simp at h
  · rename_i s
    simp only [cnd_none] at h
    obtain ⟨h1, h⟩ := h
    have h1 : i.size = 1 := Nat.eq_of_beq_eq_true h1
    simp at h; obtain ⟨rfl, rfl⟩ := h
    have hsz : (bytesOf s).size = s.length := by simp [bytesOf, ByteArray.size]
    have he : (bytesOf s).extract 0 s.length = bytesOf s := by
      rw [← hsz]; exact ByteArray.extract_zero_size
    have hc := strCellsA φ s gx
    refine ⟨.inl ⟨hdx, ?_, ?_, ?_⟩, ?_, by simp [h1]⟩
    · simp [conc, Builtin.lenOf, hsz]
    · simp only [conc, Builtin.firstCells, he, Sem.run_pure]; rw [hc]; simp
    · simp only [conc, Builtin.firstCells, he, Sem.run_pure]; rw [hc]; simp
    · rw [goods_iff]
      intro v hv
      obtain ⟨y, _, rfl⟩ := List.mem_map.1 hv
      trivial
  · simp at h
end
end Go.AE

namespace Go.AE
open Go.RowKit (Below)
section
variable {P : Program} {w w' : World} {ats : Array TypeId} {ty st xt elem : TypeId} {i : TypeInfo} {dx : TypeDesc} {base : Option Addr} {sLen sCap n : Nat} {X z : Value} {old new : Array Value}
/-- nothing is appended -/
def AppendsZ (P : Program) (w : World) (dx : TypeDesc) (X : Value) (i : TypeInfo) : Prop :=
  ((dx = .string ∨ ∃ e, dx = .slice e) ∧ (Builtin.lenOf X).run P w = .ok 0 w ∧ (Builtin.firstCells i.size 0 X).run P w = .ok #[] w) ∨ ((∃ q, dx = .int q) ∧ ∃ k, X = .int k 0)
theorem append_zero (h0 : ats[0]? = some st) (h1 : ats[1]? = some xt) (hst : P.underlying st = some (.slice elem)) (hxt : P.underlying xt = some dx) (hi : P.info? elem = some i)
    (hX : AppendsZ P w dx X i) (hn : sLen ≤ sCap) : (Builtin.append_ ats ty #[.slice base sLen sCap, X]).run P w = .ok (.slice base sLen sCap) w := by
  rcases hX with ⟨x1, x2, x3⟩ | ⟨⟨q, rfl⟩, k, rfl⟩
  · rcases x1 with rfl | ⟨_, rfl⟩ <;> cases base <;> simp [Builtin.append_, h0, h1, run_underlying hst, run_underlying hxt, sizeOf, typeInfo, hi, x2, hn, x3, storeCells]
  · have hw : IntKind.i64.wrap 0 = 0 := by decide
    have hp : ¬ ((2 : Int) ^ 48 < 0) := by decide
    cases base <;> simp [Builtin.append_, h0, h1, run_underlying hst, run_underlying hxt, sizeOf, typeInfo, hi, asInt, asIntOf, hw, hp, hn, storeCells]
end
section
variable {C : Cfg} {φ φ' : Phi} {D D' : Nat → Prop} {S S' : Tr AObj} {nx nx' B : Nat} {w w' : World}

theorem appendsZ_of {dx : TypeDesc} {X z : Value} {i : TypeInfo} (h : Appends C.P w dx X i z 0 (concs φ []).toArray) : AppendsZ C.P w dx X i := by
  rcases h with ⟨x1, x2, x3, _⟩ | ⟨_, _, _, _, x4, _⟩
  · exact .inl ⟨x1, x2, x3⟩
  · simp at x4
theorem grow_place {b o len sz n : Nat} (hr : HRel C φ D S nx B w) (hb : D b) (h : sizeAt C S b = some n) (hs : 0 < sz) (hl : o + len * sz ≤ n) : len ≤ ((φ b).room - o) / sz := by
  have := sizeAt_of hr hb h
  rw [Nat.le_div_iff_mul_le hs]
  omega
theorem appendNone_sound (hr : HRel C φ D S nx B w) {ats : Array TypeId} {ty st xt elem : TypeId} {i : TypeInfo} {dx : TypeDesc} {s : AV} {X : Value} {res : ARes}
    (h0 : ats[0]? = some st) (h1 : ats[1]? = some xt) (hst : C.P.underlying st = some (.slice elem)) (hxt : C.P.underlying xt = some dx) (hi : C.P.info? elem = some i) (hsz : 0 < i.size)
    (hX : AppendsZ C.P w dx X i) (gs : good D s) (h : appendNone C S i.size s = some res) : ∃ v, res = .val v ∧ good D v ∧ (Builtin.append_ ats ty #[conc φ s, X]).run C.P w = .ok (conc φ v) w := by
  unfold appendNone at h
  split at h
  · simp at h; subst h
    exact ⟨_, rfl, trivial, by simp only [conc]; exact append_zero h0 h1 hst hxt hi hX (Nat.le_refl _)⟩
  · simp only [cnd_none, Option.some.injEq] at h
    obtain ⟨hl, rfl⟩ := h
    exact ⟨_, rfl, gs, by simp only [conc]; exact append_zero h0 h1 hst hxt hi hX (ble_le hl)⟩
  · simp only [cnd_none] at h
    obtain ⟨he, h⟩ := h
    have he := Nat.eq_of_beq_eq_true he
    subst he
    split at h
    · rename_i n hn
      simp only [cnd_none, Option.some.injEq] at h
      obtain ⟨hl, rfl⟩ := h
      exact ⟨_, rfl, gs, by simp only [conc]; exact append_zero h0 h1 hst hxt hi hX (grow_place hr gs hn hsz (ble_le hl))⟩
    · simp at h
  · simp at h

/-- what an append comes to -/
def AppRes (C : Cfg) (φ : Phi) (D : Nat → Prop) (S : Tr AObj) (nx B : Nat) (w : World) (s : Sem Value) (res : ARes) : Prop :=
  ∃ v S' nx', res = .vals v S' nx' ∧ ∃ φ' D' w', s.run C.P w = .ok (conc φ' v) w' ∧ good D' v ∧ HRel C φ' D' S' nx' B w' ∧ Ext C nx φ D S B w φ' D' S' w' ∧ nx ≤ nx'
theorem not_dom (hr : HRel C φ D S nx B w) : ¬ D nx := fun h => by have := hr.lt nx h; omega
theorem below_new (hB : B ≤ w.heap.size) (o : Obj) : Below B w (w.drew.alloc o) := (Below.drew (Below.refl B w)).trans (Below.alloc (Below.refl B w.drew) hB o)
theorem ext_new (hr : HRel C φ D S nx B w) {pl : Pl} (hB : B ≤ w.heap.size) (o : Obj) (hS : ∀ x, x ≠ nx → ¬ D x → hget C S' x = hget C S x) : Ext C nx φ D S B w (upd φ nx pl) (add D nx) S' (w.drew.alloc o) :=
  ⟨upd_keep (not_dom hr), fun _ h => .inl h, fun x h => h.elim .inl (fun h => .inr (by omega)), fun x hx hl => hS x (by omega) hx, below_new hB o⟩
/-- the new row of an append: what was, what is new, what is free -/
theorem grown_cells {l : List AV} {rest : Array Value} {cap sz : Nat} (g : goods D l) (hn : ¬ D nx) (hl : l.length + rest.size = cap * sz) (elem : TypeId) (gl : List Nat) :
    ORel C (upd φ nx ⟨w.heap.size, 0, cap * sz⟩) (add D nx) (.cells (Tr.ofList l 0 .nil) l.length (.grow ⟨gl, elem⟩)) ⟨w.heap.size, 0, cap * sz⟩ (w.drew.alloc (.cells ((concs φ l).toArray ++ rest) elem)) := by
  have hφ := upd_keep (φ := φ) (pl := ⟨w.heap.size, 0, cap * sz⟩) hn
  refine ⟨_, elem, 0, 0, heap_new w.drew _, ⟨⟨.inl rfl, rfl⟩, by simp only; omega, ?_⟩, ?_, fun i v hv => ?_⟩
  · simp only [Array.size_append, List.size_toArray, concs_len]; omega
  · simp only [Array.size_append, List.size_toArray, concs_len]; omega
  · rw [ofList_get] at hv
    have gv := goods_get g hv
    have hlt : i < l.length := (List.getElem?_eq_some_iff.1 hv).1
    refine ⟨?_, good_mono (fun _ h => .inl h) v gv⟩
    rw [conc_keep hφ gv, Nat.zero_add, Array.getElem?_append_left (by simpa [concs_len] using hlt)]
    simp [concs_get, hv]
theorem zeroCells_size (zero : Array Value) (n : Nat) : (Builtin.zeroCells zero n).size = n * zero.size := by simp [Builtin.zeroCells]

section
variable {ats : Array TypeId} {ty st xt elem : TypeId} {i : TypeInfo} {dx : TypeDesc} {X z : Value} {n : Nat} {l : List AV}
/-- a new row -/
theorem growAt_sound (hr : HRel C φ D S nx B w) (hB : B ≤ w.heap.size) {s : AV} {base : Option Addr} {sLen sCap : Nat} {lo : List AV} (hzs : z.cells.size = i.size)
    (h0 : ats[0]? = some st) (h1 : ats[1]? = some xt) (hst : C.P.underlying st = some (.slice elem)) (hxt : C.P.underlying xt = some dx) (hi : C.P.info? elem = some i) (hz : i.zero = some z) (hsz : 0 < i.size) (hby : i.bytes ≤ 65536)
    (hX : Appends C.P w dx X i z n (concs φ l).toArray) (gl : goods D l) (hl : l.length = n * i.size) (glo : goods D lo) (hlo : lo.length = sLen * i.size) (hn : ¬ (sLen + n ≤ sCap)) (hs : conc φ s = .slice base sLen sCap)
    (ho : (Builtin.firstCells i.size sLen (.slice base sLen sCap)).run C.P w.drew = .ok (concs φ lo).toArray w.drew) (hneed : sLen + n ≤ 1048576) {S1 : Tr AObj} (gr : List Nat)
    (hS1 : hget C S1 nx = some (.cells (Tr.ofList (lo ++ l) 0 .nil) (lo ++ l).length (.grow ⟨gr, elem⟩))) (hS2 : HRel C φ D S' nx B w) (hS3 : ∀ x, x ≠ nx → hget C S1 x = hget C S' x ∨ hget C S1 x = none)
    (hS4 : ∀ x, x ≠ nx → ¬ D x → hget C S1 x = hget C S x) (hgr : ∀ x ∈ gr, D x ∧ C.n0 ≤ x) :
    ∃ φ' D' w', (Builtin.append_ ats ty #[conc φ s, X]).run C.P w = .ok (conc φ' (.sliceU nx 0 (sLen + n) i.size)) w' ∧ good D' (.sliceU nx 0 (sLen + n) i.size) ∧ HRel C φ' D' S1 (nx + 1) B w' ∧ Ext C nx φ D S B w φ' D' S1 w' := by
  obtain ⟨cap, hc, hrun⟩ := append_grow (ty := ty) h0 h1 hst hxt hi hz hX hn hby hneed ho
  have hlen : (lo ++ l).length = (sLen + n) * i.size := by rw [List.length_append, hlo, hl, Nat.add_mul]
  have hsum : (lo ++ l).length + (Builtin.zeroCells z.cells (cap - (sLen + n))).size = cap * i.size := by
    rw [zeroCells_size, hzs, hlen, ← Nat.add_mul]
    congr 1; omega
  have e : (concs φ lo).toArray ++ (concs φ l).toArray = (concs φ (lo ++ l)).toArray := by rw [concs_app]; simp
  rw [e] at hrun
  have hcells := grown_cells (C := C) (φ := φ) (w := w) (goods_app glo gl) (not_dom hr) hsum elem gr
  refine ⟨upd φ nx ⟨w.heap.size, 0, cap * i.size⟩, add D nx, w.drew.alloc (.cells ((concs φ (lo ++ l)).toArray ++ Builtin.zeroCells z.cells (cap - (sLen + n))) elem), ?_, .inr rfl, ?_, ?_⟩
  · rw [hs, hrun]
    simp only [conc, upd_self, Nat.zero_add, Nat.sub_zero]
    rw [Nat.mul_div_cancel _ hsz]
  · exact hS2.drew.alloc hr.n0 (Nat.lt_succ_self _) (Nat.le_succ _) (not_dom hr) hB rfl hS1 hS3 hcells ⟨fun c n' l' h => (by cases h; exact fun x hx => ⟨.inl (hgr x hx).1, (hgr x hx).2⟩), fun c n' st h => (by cases h; exact ofList_lt)⟩
  · exact ext_new hr hB _ hS4
theorem growAt_some {e n sz : Nat} {res : ARes} (h : growAt C S nx e n sz l = some res) : n ≤ 1048576 ∧ res = .vals (.sliceU nx 0 n sz) (hset C S nx (some (.cells (Tr.ofList l 0 .nil) l.length (.grow ⟨[], e⟩)))) (nx + 1) := by
  unfold growAt newAt at h
  simp only [forceN_eq, forceTr_eq, cnd_none, Option.some.injEq] at h
  exact ⟨ble_le h.1, h.2.symm⟩
theorem firstCells_conc {b o len cap sz : Nat} {l0 : List AV} (hr : HRel C φ D S nx B w) (hb : D b) (h : cellsAt C S b o (len * sz) = some l0) :
    (Builtin.firstCells sz len (.slice (some ⟨(φ b).blk, (φ b).sh + o, none⟩) len cap)).run C.P w.drew = .ok (concs φ l0).toArray w.drew ∧ goods D l0 := by
  obtain ⟨h1, h2⟩ := cellsAt_of hr.drew hb h
  exact ⟨by simp [Builtin.firstCells, h1], h2⟩

/-- the cells of a row whose end is written -/
theorem tail_written {arr : Array Value} {sh o p : Nat} {c : Tr AV} {l0 l : List AV} {k : Nat} (hp : p = sh + o + l0.length) (hf : p + l.length ≤ arr.size) (g0 : goods D l0) (gl : goods D l)
    (h0 : ∀ j v, l0[j]? = some v → arr[sh + o + j]? = some (conc φ v)) :
    ∀ j v, (l0 ++ l)[j]? = some v → (setMs arr p (concs φ l))[sh + o + j]? = some (conc φ v) ∧ good D v := by
  intro j v hv
  rw [setMs_get _ _ _ _ (by rw [concs_len]; exact hf), concs_len]
  by_cases hj : j < l0.length
  · rw [List.getElem?_append_left hj] at hv
    rw [if_neg (by omega)]
    exact ⟨h0 j v hv, goods_get g0 hv⟩
  · rw [List.getElem?_append_right (by omega)] at hv
    have hlt : j - l0.length < l.length := (List.getElem?_eq_some_iff.1 hv).1
    rw [if_pos (by omega), concs_get, show sh + o + j - p = j - l0.length by omega, hv]
    exact ⟨rfl, goods_get gl hv⟩
section
variable {ats : Array TypeId} {ty st xt elem : TypeId} {i : TypeInfo} {dx : TypeDesc} {X z : Value} {n : Nat} {l : List AV}
set_option maxHeartbeats 1000000 in
theorem appendU_sound (hr : HRel C φ D S nx B w) (hB : B ≤ w.heap.size) (hzs : z.cells.size = i.size) {b o len : Nat} {res : ARes}
    (h0 : ats[0]? = some st) (h1 : ats[1]? = some xt) (hst : C.P.underlying st = some (.slice elem)) (hxt : C.P.underlying xt = some dx) (hi : C.P.info? elem = some i) (hz : i.zero = some z) (hsz : 0 < i.size) (hby : i.bytes ≤ 65536)
    (hX : Appends C.P w dx X i z n (concs φ l).toArray) (gl : goods D l) (hl : l.length = n * i.size) (hd : D b) (hn0 : 0 < n) (h : appendU C S nx elem b o len i.size n l = some res) :
    AppRes C φ D S nx B w (Builtin.append_ ats ty #[conc φ (.sliceU b o len i.size), X]) res := by
  unfold appendU at h
  split at h
  · rename_i c size olds ho
    simp only [cnd_none, Bool.and_eq_true] at h
    obtain ⟨⟨hdyn, hte⟩, h⟩ := h
    have hb : C.n0 ≤ b := ble_le hdyn
    have hte : olds.ty = elem := Nat.eq_of_beq_eq_true hte
    obtain ⟨arr, ty0, lo, hi0, a1, a2, a3, a4⟩ := hr.obj b _ ho hd
    obtain ⟨⟨hfree, hty⟩, hroom, hfit⟩ := a2
    have hty : ty0 = elem := hty.trans hte
    have hbase := hr.base b _ hb ho hd
    have holds := (hr.olds b _ ho hd).1 _ _ _ rfl
    have hcell := (hr.olds b _ ho hd).2 _ _ _ rfl
    have hnb : b ≠ nx := fun e => by have := hr.lt b hd; omega
    have hnD := not_dom hr
    rw [cnd_ite] at h
    split at h
    · -- in place, nobody can tell
      rename_i hfits
      have hfits : o + (len + n) * i.size ≤ size := ble_le hfits
      split at h
      · rename_i S' hw
        simp at h; subst h
        obtain ⟨w', k1, k2, k3⟩ := aWrite_sound hr (lim := nx) hd gl hw
        have hcap : len + n ≤ ((φ b).room - o) / i.size := by
          rw [Nat.le_div_iff_mul_le hsz]; omega
        refine ⟨_, _, _, rfl, φ, D, w', ?_, hd, k2, k3, Nat.le_refl _⟩
        simp only [conc]
        refine append_room h0 h1 hst hxt hi hz hX hcap ?_
        rw [add_at, Nat.add_assoc]
        exact k1
      · simp at h
    · simp only [cnd_none, Bool.and_eq_true] at h
      obtain ⟨⟨hneed, hone⟩, h⟩ := h
      have hneed := ble_le hneed
      have hones : ∀ v ∈ concs φ l, v.oneCell' = true := ones_conc hone
      have hlen : (len + n) * i.size = len * i.size + n * i.size := Nat.add_mul ..
      rw [cnd_ite] at h
      split at h
      · -- the end of a row whose end is known
        rename_i hend
        simp only [Bool.and_eq_true] at hend
        have e1 : o + len * i.size = size := Nat.eq_of_beq_eq_true hend.1
        have e2 : o = 0 := Nat.eq_of_beq_eq_true hend.2
        subst e2
        have e1 : len * i.size = size := by omega
        simp only [forceTr_eq, newAt, forceN_eq, Option.some.injEq] at h
        subst h
        have hret := hr.retire hb hd ho
        by_cases hcap : len + n ≤ ((φ b).room - 0) / i.size
        · -- there is room
          have hroom2 : (len + n) * i.size ≤ (φ b).room := by
            have := (Nat.le_div_iff_mul_le hsz).1 hcap; omega
          have hst0 := run_store_row C.P (φ b).blk ((φ b).sh + size) ty0 lo hi0 (concs φ l) 0 arr w a1 (hfree.imp (fun e => Nat.le_of_eq e.symm) id) (by rw [concs_len]; omega)
          · have hst1 := hst0 hones
            have hw' : ∀ k, k ≠ (φ b).blk → (w.setRow (φ b).blk (setMs arr ((φ b).sh + size + 0) (concs φ l))).heap[k]? = w.heap[k]? := fun k hk => setRow_other w _ k _ hk
            have hrow := setRow_heap w (φ b).blk arr (setMs arr ((φ b).sh + size + 0) (concs φ l)) ty0 (lo, hi0) a1
            have hφ := upd_keep (φ := φ) (pl := φ b) hnD
            have hnew : ORel C (upd φ nx (φ b)) (add D nx) (.cells (writeN c size l) (size + l.length) (.grow ⟨b :: olds.l, elem⟩)) (φ b) (w.setRow (φ b).blk (setMs arr ((φ b).sh + size + 0) (concs φ l))) := by
              refine ⟨_, ty0, lo, hi0, hrow, ⟨⟨by rw [setMs_size]; exact hfree, hty⟩, by omega, by rw [setMs_size]; exact hfit⟩, by rw [setMs_size]; omega, fun j v hv => ?_⟩
              obtain ⟨g1, g2⟩ := writeN_rel (φ := φ) (D := D) (c := c) (arr := arr) (sh := (φ b).sh) (o := size) (n := size + l.length) gl (by omega) (by omega) a4 j v hv
              exact ⟨by rw [conc_keep hφ g2]; exact g1, good_mono (fun _ h => .inl h) v g2⟩
            have hrel := hret.share (nx := nx) (w' := w.setRow (φ b).blk (setMs arr ((φ b).sh + size + 0) (concs φ l))) (pl := φ b) (ob := .cells (writeN c size l) (size + l.length) (.grow ⟨b :: olds.l, elem⟩)) hbase rfl hw' hnew
              ⟨fun c' n' l' h => (by
                  cases h
                  intro x hx
                  rcases List.mem_cons.1 hx with rfl | hx
                  · exact ⟨.inl hd, hb⟩
                  · exact ⟨.inl (holds x hx).1, (holds x hx).2⟩),
                fun c' n' st' h => (by cases h; exact writeN_lt (Nat.le_refl _) fun j v hv => Nat.lt_of_lt_of_le (hcell j v hv) (Nat.le_add_right _ _))⟩
              (fun x ox hx dx hxb => by
                have keepx : ∀ c' n', ox = .cells c' n' .stale → n' ≤ size → (φ x).sh = (φ b).sh → ORel C φ D ox (φ x) (w.setRow (φ b).blk (setMs arr ((φ b).sh + size + 0) (concs φ l))) := by
                  intro c' n' e hn' hsh
                  subst e
                  have hlt := (hret.olds x _ hx dx).2 _ _ _ rfl
                  obtain ⟨arr', ty', lo', hi', b1, b2, b3, b4⟩ := hret.obj x _ hx dx
                  rw [hxb, a1] at b1
                  cases b1
                  refine ⟨_, ty0, lo, hi0, by rw [hxb]; exact hrow, by rw [setMs_size]; exact b2, by rw [setMs_size]; exact b3, fun j v hv => ?_⟩
                  obtain ⟨g1, g2⟩ := b4 j v hv
                  have := hlt j v hv
                  refine ⟨?_, g2⟩
                  rw [setMs_get _ _ _ _ (by rw [concs_len]; omega), if_neg (by omega)]
                  exact g1
                by_cases e : x = b
                · subst e
                  rw [hget_hset _ hb, if_pos rfl] at hx; cases hx
                  exact ⟨keepx c size rfl (Nat.le_refl _) rfl, .inr (.inl ⟨_, _, _, _, _, rfl, rfl, by simp, by omega⟩), .inr (.inr ⟨_, _, _, _, _, rfl, rfl, by simp, by omega⟩), rfl⟩
                · rw [hget_hset _ hb, if_neg e] at hx
                  obtain ⟨hs1, hs2⟩ := hr.sep b x _ ox ho hx hd dx (fun q => e q.symm) hb hxb.symm
                  rcases hs1 with ⟨_, _, _, _, q, _⟩ | ⟨_, _, l', c', n', q, rfl, hm, hle⟩ | ⟨_, _, _, _, _, _, q, _⟩
                  · cases q
                  · cases q
                    refine ⟨keepx c' n' rfl hle hs2.symm, .inr (.inl ⟨_, _, _, _, _, rfl, rfl, List.mem_cons_of_mem _ hm, by omega⟩), .inr (.inr ⟨_, _, _, _, _, rfl, rfl, List.mem_cons_of_mem _ hm, by omega⟩), hs2⟩
                  · cases q)
            refine ⟨_, _, _, rfl, upd φ nx (φ b), add D nx, _, ?_, .inr rfl, hrel, ⟨hφ, fun _ h => .inl h, fun x h => h.elim .inl (fun h => .inr (by omega)), fun x hx hlt => ?_, below_setRow hbase _ _⟩, Nat.le_succ _⟩
            · simp only [conc, upd_self]
              rw [Nat.add_zero]
              refine append_room h0 h1 hst hxt hi hz hX hcap ?_
              rw [add_at, e1]
              exact hst1
            · have hxb : x ≠ b := fun e => hx (by rw [e]; exact hd)
              rw [hget_hset _ hr.n0, if_neg (by omega), hget_hset _ hb, if_neg hxb]
        · -- a new row
          have hold : (Builtin.firstCells i.size len (.slice (some ⟨(φ b).blk, (φ b).sh + 0, none⟩) len (((φ b).room - 0) / i.size))).run C.P w.drew = .ok ((arr.toList.drop (φ b).sh).take size).toArray w.drew := by
            have hl0 := run_loadCells_list (P := C.P) w.drew ⟨(φ b).blk, (φ b).sh + 0, none⟩ ((arr.toList.drop (φ b).sh).take size) (fun j v hv => by
              rw [add_at]
              have hj : j < size := by
                have := (List.getElem?_eq_some_iff.1 hv).1
                simp at this; omega
              rw [List.getElem?_take_of_lt hj, List.getElem?_drop] at hv
              have a1' : w.drew.heap[(φ b).blk]? = some (.cells arr ty0 (lo, hi0)) := a1
              simp only [World.cell?, a1']
              simpa [Array.getElem?_toList] using hv)
            have hlen2 : ((arr.toList.drop (φ b).sh).take size).length = size := by simp; omega
            rw [hlen2] at hl0
            simp only [Builtin.firstCells, e1]
            exact hl0
          obtain ⟨cap, hc, hrun⟩ := append_grow (ty := ty) h0 h1 hst hxt hi hz hX hcap hby hneed hold
          have hlen2 : ((arr.toList.drop (φ b).sh).take size).length = size := by simp; omega
          have hsum : size + l.length + (Builtin.zeroCells z.cells (cap - (len + n))).size = cap * i.size := by
            rw [zeroCells_size, hzs, hl, ← e1, ← Nat.add_mul, ← Nat.add_mul]
            congr 1; omega
          have hφ := upd_keep (φ := φ) (pl := ⟨w.heap.size, 0, cap * i.size⟩) hnD
          have hnew : ORel C (upd φ nx ⟨w.heap.size, 0, cap * i.size⟩) (add D nx) (.cells (writeN c size l) (size + l.length) (.grow ⟨b :: olds.l, elem⟩)) ⟨w.heap.size, 0, cap * i.size⟩
              (w.drew.alloc (.cells (((arr.toList.drop (φ b).sh).take size).toArray ++ (concs φ l).toArray ++ Builtin.zeroCells z.cells (cap - (len + n))) elem)) := by
            refine ⟨_, elem, 0, 0, heap_new w.drew _, ⟨⟨.inl rfl, rfl⟩, by simp only; omega, ?_⟩, ?_, fun j v hv => ?_⟩
            · simp only [Array.size_append, List.size_toArray, concs_len, hlen2]; omega
            · simp only [Array.size_append, List.size_toArray, concs_len, hlen2]; omega
            · rw [writeN_eq, Tr.get_ofList] at hv
              simp only [Nat.zero_add]
              split at hv
              · rename_i hj
                have gv := goods_get gl hv
                refine ⟨?_, good_mono (fun _ h => .inl h) v gv⟩
                rw [conc_keep hφ gv, Array.getElem?_append_left (by simp only [Array.size_append, List.size_toArray, concs_len, hlen2]; omega), Array.getElem?_append_right (by simp only [List.size_toArray, hlen2]; omega)]
                simp only [List.size_toArray, hlen2, List.getElem?_toArray, concs_get, hv, Option.map_some]
              · have hj := hcell j v hv
                obtain ⟨g1, g2⟩ := a4 j v hv
                refine ⟨?_, good_mono (fun _ h => .inl h) v g2⟩
                rw [conc_keep hφ g2, Array.getElem?_append_left (by simp only [Array.size_append, List.size_toArray, concs_len, hlen2]; omega), Array.getElem?_append_left (by simp only [List.size_toArray, hlen2]; omega)]
                rw [List.getElem?_toArray, List.getElem?_take_of_lt hj, List.getElem?_drop, Array.getElem?_toList]
                exact g1
          have hS1 : hget C (hset C (hset C S b (some (.cells c size .stale))) nx (some (.cells (writeN c size l) (size + l.length) (.grow ⟨b :: olds.l, elem⟩)))) nx = some (.cells (writeN c size l) (size + l.length) (.grow ⟨b :: olds.l, elem⟩)) := by
            rw [hget_hset _ hr.n0, if_pos rfl]
          refine ⟨_, _, _, rfl, upd φ nx ⟨w.heap.size, 0, cap * i.size⟩, add D nx, _, ?_, .inr rfl, hret.drew.alloc hr.n0 (Nat.lt_succ_self _) (Nat.le_succ _) hnD hB rfl hS1 (fun x hx => .inl ?_) hnew ?_, ext_new hr hB _ (fun x hx hxd => ?_), Nat.le_succ _⟩
          · simp only [conc, upd_self, Nat.zero_add, Nat.sub_zero]
            simp only [Nat.add_zero, Nat.sub_zero] at hrun ⊢
            rw [hrun, Nat.mul_div_cancel _ hsz]
          · rw [hget_hset _ hr.n0, if_neg hx]
          · exact ⟨fun c' n' l' h => (by
                  cases h
                  intro x hx
                  rcases List.mem_cons.1 hx with rfl | hx
                  · exact ⟨.inl hd, hb⟩
                  · exact ⟨.inl (holds x hx).1, (holds x hx).2⟩),
                fun c' n' st' h => (by cases h; exact writeN_lt (Nat.le_refl _) fun j v hv => Nat.lt_of_lt_of_le (hcell j v hv) (Nat.le_add_right _ _))⟩
          · have hxb : x ≠ b := fun e => hxd (by rw [e]; exact hd)
            rw [hget_hset _ hr.n0, if_neg hx, hget_hset _ hb, if_neg hxb]
      · -- a row of another place
        split at h
        · rename_i l0 hl0
          simp only [newAt, forceN_eq, forceTr_eq, Option.some.injEq] at h
          subst h
          have hlen0 : l0.length = len * i.size := len_of_getN hl0
          have hcl : cellsOf C S b = some c := by simp [cellsOf, ho]
          have hkill : ∀ x, x ≠ b → hget C (hset C (killAll C olds.l S) b none) x = if x ∈ olds.l then none else hget C S x := fun x hx => by
            rw [hget_hset _ hb, if_neg hx, hget_killAll _ _ _ fun y hy => (holds y hy).2]
          have hkillb : hget C (hset C (killAll C olds.l S) b none) b = none := by rw [hget_hset _ hb, if_pos rfl]
          have hfew : HRel C φ D (hset C (killAll C olds.l S) b none) nx B w := hr.fewer fun x => by
            by_cases e : x = b
            · subst e; exact .inr hkillb
            · rw [hkill x e]; split
              · exact .inr rfl
              · exact .inl rfl
          have hkeep : ∀ x, ¬ D x → hget C (hset C (killAll C olds.l S) b none) x = hget C S x := fun x hx => by
            have hxb : x ≠ b := fun e => hx (by rw [e]; exact hd)
            rw [hkill x hxb, if_neg fun hm => hx (holds x hm).1]
          have hself : hget C (hset C (hset C (killAll C olds.l S) b none) nx (some (.cells (Tr.ofList (l0 ++ l) 0 .nil) (l0 ++ l).length (.grow ⟨[], elem⟩)))) nx = some (.cells (Tr.ofList (l0 ++ l) 0 .nil) (l0 ++ l).length (.grow ⟨[], elem⟩)) := by
            rw [hget_hset _ hr.n0, if_pos rfl]
          have helse : ∀ x, x ≠ nx → hget C (hset C (hset C (killAll C olds.l S) b none) nx (some (.cells (Tr.ofList (l0 ++ l) 0 .nil) (l0 ++ l).length (.grow ⟨[], elem⟩)))) x = hget C (hset C (killAll C olds.l S) b none) x := fun x hx => by
            rw [hget_hset _ hr.n0, if_neg hx]
          obtain ⟨hg1, hg2⟩ := cells_of hr hd hcl hl0
          by_cases hcap : len + n ≤ ((φ b).room - o) / i.size
          · -- there is room
            have hpos : 0 < (len + n) * i.size := Nat.mul_pos (by omega) hsz
            have hroom2 : o + (len + n) * i.size ≤ (φ b).room := by
              have h3 := (Nat.le_div_iff_mul_le hsz).1 hcap
              omega
            have hst1 := run_store_row C.P (φ b).blk ((φ b).sh + (o + len * i.size)) ty0 lo hi0 (concs φ l) 0 arr w a1 (hfree.imp (fun e => Nat.le_of_eq e.symm) id) (by rw [concs_len]; omega) hones
            have hw' : ∀ k, k ≠ (φ b).blk → (w.setRow (φ b).blk (setMs arr ((φ b).sh + (o + len * i.size) + 0) (concs φ l))).heap[k]? = w.heap[k]? := fun k hk => setRow_other w _ k _ hk
            have hrow := setRow_heap w (φ b).blk arr (setMs arr ((φ b).sh + (o + len * i.size) + 0) (concs φ l)) ty0 (lo, hi0) a1
            have hφ := upd_keep (φ := φ) (pl := ⟨(φ b).blk, (φ b).sh + o, (φ b).room - o⟩) hnD
            have hlen3 : (l0 ++ l).length = (len + n) * i.size := by rw [List.length_append, hlen0, hl, Nat.add_mul]
            have hnew : ORel C (upd φ nx ⟨(φ b).blk, (φ b).sh + o, (φ b).room - o⟩) (add D nx) (.cells (Tr.ofList (l0 ++ l) 0 .nil) (l0 ++ l).length (.grow ⟨[], elem⟩)) ⟨(φ b).blk, (φ b).sh + o, (φ b).room - o⟩ (w.setRow (φ b).blk (setMs arr ((φ b).sh + (o + len * i.size) + 0) (concs φ l))) := by
              refine ⟨_, ty0, lo, hi0, hrow, ⟨⟨by rw [setMs_size]; exact hfree, hty⟩, by simp only; omega, by rw [setMs_size]; simp only; omega⟩, by rw [setMs_size]; simp only; omega, fun j v hv => ?_⟩
              rw [ofList_get] at hv
              obtain ⟨g1, g2⟩ := tail_written (φ := φ) (D := D) (arr := arr) (sh := (φ b).sh) (o := o) (p := (φ b).sh + (o + len * i.size) + 0) (c := c) (k := 0) (by omega) (by omega) hg2 gl (fun j v hv => by
                have hjl : j < len * i.size := by have := (List.getElem?_eq_some_iff.1 hv).1; omega
                have := (Tr.getN_spec _ _ _ _ hl0).2 j hjl
                rw [hv] at this
                have := (a4 _ _ this).1
                rw [← Nat.add_assoc] at this
                exact this) j v hv
              exact ⟨by rw [conc_keep hφ g2]; exact g1, good_mono (fun _ h => .inl h) v g2⟩
            have hrel := hfew.share (w' := w.setRow (φ b).blk (setMs arr ((φ b).sh + (o + len * i.size) + 0) (concs φ l))) (pl := ⟨(φ b).blk, (φ b).sh + o, (φ b).room - o⟩) (ob := .cells (Tr.ofList (l0 ++ l) 0 .nil) (l0 ++ l).length (.grow ⟨[], elem⟩)) hbase rfl hw' hnew
              ⟨fun c' n' l' h => (by cases h; simp), fun c' n' st' h => (by cases h; exact ofList_lt)⟩
              (fun x ox hx dx hxb => by
                exfalso
                by_cases e : x = b
                · subst e; rw [hkillb] at hx; cases hx
                · rw [hkill x e] at hx
                  split at hx
                  · cases hx
                  · rename_i hni
                    rcases (hr.sep b x _ ox ho hx hd dx (fun q => e q.symm) hb hxb.symm).1 with ⟨_, _, _, _, q, _⟩ | ⟨_, _, l', c', n', q, _, hm, _⟩ | ⟨_, _, _, _, _, _, q, _⟩
                    · cases q
                    · cases q; exact hni hm
                    · cases q)
            refine ⟨_, _, _, rfl, upd φ nx ⟨(φ b).blk, (φ b).sh + o, (φ b).room - o⟩, add D nx, _, ?_, .inr rfl, hrel, ⟨hφ, fun _ h => .inl h, fun x h => h.elim .inl (fun h => .inr (by omega)), fun x hx hlt => ?_, below_setRow hbase _ _⟩, Nat.le_succ _⟩
            · simp only [conc, upd_self, Nat.add_zero, Nat.sub_zero]
              refine append_room h0 h1 hst hxt hi hz hX hcap ?_
              rw [add_at, Nat.add_assoc]
              exact hst1
            · rw [hget_hset _ hr.n0, if_neg (by omega), hkeep x hx]
          · have hfc : (Builtin.firstCells i.size len (.slice (some ⟨(φ b).blk, (φ b).sh + o, none⟩) len (((φ b).room - o) / i.size))).run C.P w.drew = .ok (concs φ l0).toArray w.drew := by
              obtain ⟨hg3, _⟩ := cells_of hr.drew hd hcl hl0
              simp [Builtin.firstCells, hg3]
            obtain ⟨φ', D', w', r1, r2, r3, r4⟩ := growAt_sound (ty := ty) hr hB (s := .sliceU b o len i.size) (lo := l0) hzs h0 h1 hst hxt hi hz hsz hby hX gl hl hg2 hlen0 hcap rfl hfc hneed []
              hself hfew (fun x hx => .inl (helse x hx)) (fun x hx hxd => by rw [helse x hx, hkeep x hxd]) (by simp)
            exact ⟨_, _, _, rfl, φ', D', w', r1, r2, r3, r4, Nat.le_succ _⟩
        · simp at h
  · simp at h
end
end
end
end Go.AE

namespace Go.AE
open Go.RowKit (Below)
section
variable {C : Cfg} {φ φ' : Phi} {D D' : Nat → Prop} {S S' : Tr AObj} {nx nx' B : Nat} {w w' : World}
section
variable {ats : Array TypeId} {ty st xt elem : TypeId} {i : TypeInfo} {dx : TypeDesc} {X z : Value} {n : Nat} {l : List AV}
theorem growRes (hr : HRel C φ D S nx B w) (hB : B ≤ w.heap.size) {s : AV} {base : Option Addr} {sLen sCap : Nat} {lo : List AV} {res : ARes} (hzs : z.cells.size = i.size)
    (h0 : ats[0]? = some st) (h1 : ats[1]? = some xt) (hst : C.P.underlying st = some (.slice elem)) (hxt : C.P.underlying xt = some dx) (hi : C.P.info? elem = some i) (hz : i.zero = some z) (hsz : 0 < i.size) (hby : i.bytes ≤ 65536)
    (hX : Appends C.P w dx X i z n (concs φ l).toArray) (gl : goods D l) (hl : l.length = n * i.size) (glo : goods D lo) (hlo : lo.length = sLen * i.size) (hn : ¬ (sLen + n ≤ sCap)) (hs : conc φ s = .slice base sLen sCap)
    (ho : (Builtin.firstCells i.size sLen (.slice base sLen sCap)).run C.P w.drew = .ok (concs φ lo).toArray w.drew) (h : growAt C S nx elem (sLen + n) i.size (lo ++ l) = some res) :
    AppRes C φ D S nx B w (Builtin.append_ ats ty #[conc φ s, X]) res := by
  obtain ⟨hneed, rfl⟩ := growAt_some h
  obtain ⟨φ', D', w', r1, r2, r3, r4⟩ := growAt_sound (ty := ty) hr hB (S' := S) hzs h0 h1 hst hxt hi hz hsz hby hX gl hl glo hlo hn hs ho hneed (S1 := hset C S nx (some (.cells (Tr.ofList (lo ++ l) 0 .nil) (lo ++ l).length (.grow ⟨[], elem⟩)))) []
    (by rw [hget_hset _ hr.n0, if_pos rfl]) hr (fun x hx => .inl (by rw [hget_hset _ hr.n0, if_neg hx])) (fun x hx _ => by rw [hget_hset _ hr.n0, if_neg hx]) (by simp)
  exact ⟨_, _, _, rfl, φ', D', w', r1, r2, r3, r4, Nat.le_succ _⟩
theorem appendL_sound (hr : HRel C φ D S nx B w) (hB : B ≤ w.heap.size) (hzs : z.cells.size = i.size) {s : AV} {res : ARes}
    (h0 : ats[0]? = some st) (h1 : ats[1]? = some xt) (hst : C.P.underlying st = some (.slice elem)) (hxt : C.P.underlying xt = some dx) (hi : C.P.info? elem = some i) (hz : i.zero = some z) (hsz : 0 < i.size) (hby : i.bytes ≤ 65536)
    (hX : Appends C.P w dx X i z n (concs φ l).toArray) (gl : goods D l) (hl : l.length = n * i.size) (gs : good D s) (hn0 : 0 < n) (h : appendL C S nx elem i.size n l s = some res) :
    AppRes C φ D S nx B w (Builtin.append_ ats ty #[conc φ s, X]) res := by
  unfold appendL at h
  split at h
  · refine growRes (sLen := 0) (sCap := 0) (lo := []) (base := none) hr hB hzs h0 h1 hst hxt hi hz hsz hby hX gl hl trivial (by simp) (by omega) rfl ?_ (by simpa using h)
    simp [Builtin.firstCells, concs]
  · rename_i b o len cap
    rw [cnd_ite] at h
    split at h
    · rename_i hcap
      have hcap := ble_le hcap
      split at h
      · rename_i S' hw
        simp at h; subst h
        obtain ⟨w', k1, k2, k3⟩ := aWrite_sound hr (lim := nx) gs gl hw
        refine ⟨_, _, _, rfl, φ, D, w', ?_, gs, k2, k3, Nat.le_refl _⟩
        simp only [conc]
        refine append_room h0 h1 hst hxt hi hz hX hcap ?_
        rw [add_at, Nat.add_assoc]
        exact k1
      · simp at h
    · rename_i hcap
      have hcap : ¬ (len + n ≤ cap) := fun q => hcap (by simpa using q)
      split at h
      · rename_i l0 hl0
        obtain ⟨k1, k2⟩ := firstCells_conc (sz := i.size) (cap := cap) hr gs hl0
        exact growRes hr hB hzs h0 h1 hst hxt hi hz hsz hby hX gl hl k2 (cellsAt_len hl0) hcap rfl k1 h
      · simp at h
  · rename_i b o len sz'
    simp only [cnd_none] at h
    obtain ⟨he, h⟩ := h
    have he := Nat.eq_of_beq_eq_true he
    subst he
    exact appendU_sound hr hB hzs h0 h1 hst hxt hi hz hsz hby hX gl hl gs hn0 h
  · simp at h
end
/-- what comes of an append, also of nothing -/
def AppAns (C : Cfg) (φ : Phi) (D : Nat → Prop) (S : Tr AObj) (nx B : Nat) (w : World) (s : Sem Value) (res : ARes) : Prop :=
  AppRes C φ D S nx B w s res ∨ ∃ v, res = .val v ∧ good D v ∧ s.run C.P w = .ok (conc φ v) w
theorem aAppend_sound (hr : HRel C φ D S nx B w) (hB : B ≤ w.heap.size) {ats : Array TypeId} {ty st xt : TypeId} {dx : TypeDesc} {s x : AV} {res : ARes}
    (h0 : ats[0]? = some st) (h1 : ats[1]? = some xt) (hxt : C.P.underlying xt = some dx) (hdx : dx = .string ∨ ∃ e, dx = .slice e) (gs : good D s) (gx : good D x) (h : aAppend C S nx st s x = some res) :
    AppAns C φ D S nx B w (Builtin.append_ ats ty #[conc φ s, conc φ x]) res := by
  unfold aAppend at h
  split at h
  · rename_i elem hst
    split at h
    · rename_i i hi
      split at h
      · rename_i n l hsrc
        simp only [cnd_none, Bool.and_eq_true] at h
        obtain ⟨⟨⟨hsz, hby⟩, hzf⟩, h⟩ := h
        have hsz := blt_lt hsz
        have hby := ble_le hby
        obtain ⟨z, hz, hzs⟩ : ∃ z, i.zero = some z ∧ z.cells.size = i.size := by
          unfold zeroFits at hzf
          split at hzf
          · rename_i z hz
            exact ⟨z, hz, Nat.eq_of_beq_eq_true hzf⟩
          · simp at hzf
        obtain ⟨hX, gl, hl⟩ := src_sound (z := z) hr gx hdx hsrc
        rw [cnd_beq] at h
        split at h
        · rename_i hn
          subst hn
          have : l = [] := List.length_eq_zero_iff.1 (by rw [hl]; simp)
          subst this
          obtain ⟨v, r1, r2, r3⟩ := appendNone_sound (ty := ty) hr h0 h1 hst hxt hi hsz (appendsZ_of hX) gs h
          exact .inr ⟨v, r1, r2, r3⟩
        · exact .inl (appendL_sound hr hB hzs h0 h1 hst hxt hi hz hsz hby hX gl hl gs (by omega) h)
      · simp at h
    · simp at h
  · simp at h
theorem aGrow_sound (hr : HRel C φ D S nx B w) (hB : B ≤ w.heap.size) {ats : Array TypeId} {ty st xt : TypeId} {q : IntKind} {s x : AV} {n : Nat} {res : ARes}
    (h0 : ats[0]? = some st) (h1 : ats[1]? = some xt) (hxt : C.P.underlying xt = some (.int q)) (gs : good D s) (hx : natOf x = some n) (h : aGrow C S nx st s n = some res) :
    AppAns C φ D S nx B w (Builtin.append_ ats ty #[conc φ s, conc φ x]) res := by
  obtain ⟨k, rfl⟩ := natOf_some hx
  unfold aGrow at h
  split at h
  · rename_i elem hst
    split at h
    · rename_i i z hi hz0
      simp only [cnd_none, Bool.and_eq_true] at h
      obtain ⟨⟨⟨⟨hsz, hby⟩, hzl⟩, hnb⟩, h⟩ := h
      have hsz := blt_lt hsz
      have hby := ble_le hby
      have hnb := ble_le hnb
      have hzl : z.cells.length = i.size := Nat.eq_of_beq_eq_true hzl
      have hz : i.zero = some (conc φ z) ∧ good D z := by
        unfold zeroOf at hz0
        rw [hi] at hz0
        simp only at hz0
        split at hz0
        · rename_i u hu
          obtain ⟨e, g⟩ := ofV_sound (φ := φ) (D := D) hz0
          exact ⟨by rw [hu, e], g⟩
        · simp at hz0
      rw [cnd_beq] at h
      split at h
      · rename_i hn
        subst hn
        obtain ⟨v, r1, r2, r3⟩ := appendNone_sound (ty := ty) hr h0 h1 hst hxt hi hsz (.inr ⟨⟨q, rfl⟩, k, rfl⟩) gs h
        exact .inr ⟨v, r1, r2, r3⟩
      · rename_i hn
        have hX : Appends C.P w (.int q) (conc φ (.int k (Int.ofNat n))) i (conc φ z) n (concs φ (repl n z.cells)).toArray :=
          .inr ⟨⟨q, rfl⟩, ⟨k, rfl⟩, hnb, hby, by have := Nat.mul_pos (Nat.pos_of_ne_zero hn) hsz; omega, (zeroCells_repl φ z n).symm⟩
        exact .inl (appendL_sound hr hB (by rw [cells_conc]; simp [concs_len, hzl]) h0 h1 hst hxt hi hz.1 hsz hby hX (goods_repl (cells_good hz.2) n) (by rw [repl_len, hzl]) gs (by omega) h)
    · simp at h
  · simp at h
end
end Go.AE

namespace Go.AE
open Go.RowKit (Below)
section
variable {C : Cfg} {φ φ' : Phi} {D D' : Nat → Prop} {S S' : Tr AObj} {nx nx' B : Nat} {w w' : World}

/-- a value that an operation answers, over new worlds -/
def DoneV (C : Cfg) (φ : Phi) (D : Nat → Prop) (S : Tr AObj) (nx B : Nat) (w : World) (s : Sem Value) (v : AV) (S' : Tr AObj) (nx' : Nat) : Prop :=
  ∃ φ' D' w', s.run C.P w = .ok (conc φ' v) w' ∧ good D' v ∧ HRel C φ' D' S' nx' B w' ∧ Ext C nx φ D S B w φ' D' S' w' ∧ nx ≤ nx'
theorem DoneV.done {s : Sem Value} {v : AV} (h : DoneV C φ D S nx B w s v S' nx') : Done C φ D S nx B w (do pure (.value (← s))) v S' nx' := by
  obtain ⟨φ', D', w', h1, h2, h3, h4, h5⟩ := h
  exact ⟨φ', D', w', .value (conc φ' v), by simp [h1], .inl rfl, h2, h3, h4, h5⟩
theorem DoneV.same (hr : HRel C φ D S nx B w) {s : Sem Value} {v : AV} (h : s.run C.P w = .ok (conc φ v) w) (g : good D v) : DoneV C φ D S nx B w s v S nx :=
  ⟨φ, D, w, h, g, hr, .refl, Nat.le_refl _⟩
/-- an object that is no row of cells, newly made -/
theorem newObj_done (hr : HRel C φ D S nx B w) (hB : B ≤ w.heap.size) {s : Sem Value} {v : AV} {ob : AObj} {o : Obj} (hs : s.run C.P w = .ok (conc (upd φ nx ⟨w.heap.size, 0, 0⟩) v) (w.alloc o)) (gv : good (add D nx) v)
    (ho : ORel C (upd φ nx ⟨w.heap.size, 0, 0⟩) (add D nx) ob ⟨w.heap.size, 0, 0⟩ (w.alloc o)) (hol : OldsIn C (add D nx) ob) : DoneV C φ D S nx B w s v (hset C S nx (some ob)) (nx + 1) := by
  have hb := hr.n0
  refine ⟨_, _, _, hs, gv, hr.alloc hb (Nat.lt_succ_self _) (Nat.le_succ _) (not_dom hr) hB rfl (by rw [hget_hset _ hb, if_pos rfl]) (fun x hx => .inl (by rw [hget_hset _ hb, if_neg hx])) ho hol, ?_, Nat.le_succ _⟩
  exact ⟨upd_keep (not_dom hr), fun _ h => .inl h, fun x h => h.elim .inl (fun h => .inr (by omega)), fun x hx hl => by rw [hget_hset _ hb, if_neg (by omega)], Below.alloc (Below.refl B w) hB o⟩
theorem newAt_vals {o : AObj} {k : Nat → AV} {res : ARes} (h : newAt C S nx o k = some res) : res = .vals (k nx) (hset C S nx (some o)) (nx + 1) := by
  unfold newAt at h
  simp only [forceN_eq, forceTr_eq, Option.some.injEq] at h
  exact h.symm

theorem mapEntry_sound (hr : HRel C φ D S nx B w) {t : Nat} {m k : Operand} {ρ : Operand → Value} {ρ' : Operand → Option AV} {res : ARes} (hρ : Ev φ D ρ ρ' [m, k]) (h : hMapEntry C t m k S nx ρ' = some res) :
    ∃ v S', res = .vals v S' nx ∧ DoneV C φ D S nx B w (Instr.mapEntry t (ρ m) (ρ k)) v S' nx := by
  unfold hMapEntry at h
  split at h
  · rename_i kt et r ka hu hm hk
    obtain ⟨em, gm⟩ := hρ m (by simp) _ hm
    obtain ⟨ek, gk⟩ := hρ k (by simp) _ hk
    rw [em, ek]
    split at h
    · rename_i es clock ho
      simp only [cnd_none] at h
      obtain ⟨hko, h⟩ := h
      obtain ⟨kd, hkd⟩ := keyType_some hko
      obtain ⟨arr, a1, a2, a3, a4⟩ := map_of_rel hr gm ho
      have h1 := aKeyOk_sound (C := C) (φ := φ) (D := D) (w := w) (e := false) 20 10000 kt ka (by decide) gk hko
      split at h
      · rename_i i u hf
        have h2 := findKey_sound hr hkd gk a4 hf
        obtain ⟨_, e, he, rfl⟩ := findKey_good es 0 i u hf
        simp only [Nat.sub_zero] at he
        rw [nth_eq, he] at h
        obtain ⟨k', v', born⟩ := e
        simp only [cnd_none] at h
        obtain ⟨hks, h⟩ := h
        obtain ⟨rfl, hb⟩ := setObj_vals h
        have hg := a4 _ (List.mem_of_getElem? he)
        obtain ⟨w', k1, k2, k3⟩ := putMap hr (lim := nx) hb gm ho (clock' := clock) (es' := es.set i (ka, v', born)) (modify_entries (fun e => { e with key := conc φ ka }) a3 he rfl) (good_set a4 ⟨gk, hg.2⟩)
        refine ⟨_, _, rfl, φ, D, w', ?_, ⟨hg.2, trivial, trivial⟩, k2, k3, Nat.le_refl _⟩
        simp [Instr.mapEntry, run_underlying hu, conc, concs, a1, h1, a3, h2, cFound, entry_at a3 he, entryOf, keyStays hg.1 gk hks, k1, goInt]
      · rename_i hf
        have h2 := findKey_sound hr hkd gk a4 hf
        split at h
        · rename_i z hz
          obtain ⟨z1, z2⟩ := run_zeroOf hz φ D w
          obtain ⟨rfl, hb⟩ := setObj_vals h
          obtain ⟨w', k1, k2, k3⟩ := putMap hr (lim := nx) hb gm ho (clock' := clock + 1) (es' := es ++ [(ka, z, clock)]) (arr' := arr.push { key := conc φ ka, val := conc φ z, born := clock }) (by simp [a3, entryOf])
            (fun e he => (List.mem_append.1 he).elim (a4 e) (fun he => by simp at he; subst he; exact ⟨gk, z2⟩))
          refine ⟨_, _, rfl, φ, D, w', ?_, ⟨z2, trivial, trivial⟩, k2, k3, Nat.le_refl _⟩
          simp [Instr.mapEntry, run_underlying hu, conc, concs, a1, h1, a3, h2, cFound, z1, k1, goInt]
        · simp at h
      · simp at h
    · simp at h
  · simp at h
theorem findIdx_entries {born : Nat} : ∀ (es : List (AV × AV × Nat)), (es.map (entryOf φ)).findIdx? (fun e => ((e.born : Int) == (Int.ofNat born))) = es.findIdx? (fun e => Nat.beq e.2.2 born) := by
  intro es
  induction es with
  | nil => rfl
  | cons e es ih =>
    simp only [List.map_cons, List.findIdx?_cons, ih, entryOf]
    have : (((e.2.2 : Nat) : Int) == Int.ofNat born) = Nat.beq e.2.2 born := by
      rw [Bool.eq_iff_iff, beq_iff_eq]
      exact ⟨fun h => by have : e.2.2 = born := Int.ofNat.inj h
                         rw [this]; exact Nat.beq_refl _, fun h => by rw [Nat.eq_of_beq_eq_true h]; rfl⟩
    rw [this]
theorem entryStore_sound (hr : HRel C φ D S nx B w) {t : Nat} {m s x : Operand} {ρ : Operand → Value} {ρ' : Operand → Option AV} {res : ARes} (hρ : Ev φ D ρ ρ' [m, s, x]) (h : hEntryStore C m s x S nx ρ' = some res) :
    ∃ S' w', res = .vals undef S' nx ∧ (Instr.entryStore t (ρ m) (ρ s) (ρ x)).run C.P w = .ok () w' ∧ HRel C φ D S' nx B w' ∧ Ext C nx φ D S B w φ D S' w' := by
  unfold hEntryStore at h
  split at h
  · rename_i r q born v hm hs hx
    obtain ⟨em, gm⟩ := hρ m (by simp) _ hm
    obtain ⟨es', _⟩ := hρ s (by simp) _ hs
    obtain ⟨ex, gx⟩ := hρ x (by simp) _ hx
    rw [em, es', ex]
    split at h
    · rename_i es clock ho
      obtain ⟨arr, a1, a2, a3, a4⟩ := map_of_rel hr gm ho
      split at h
      · rename_i i hi
        rw [nth_eq] at h
        split at h
        · rename_i k u b he
          obtain ⟨rfl, hb⟩ := setObj_vals h
          have hg := a4 _ (List.mem_of_getElem? he)
          obtain ⟨w', k1, k2, k3⟩ := putMap hr (lim := nx) hb gm ho (clock' := clock) (es' := es.set i (k, v, b)) (modify_entries (fun e => { e with val := conc φ v }) a3 he rfl) (good_set a4 ⟨hg.1, gx⟩)
          refine ⟨_, w', rfl, ?_, k2, k3⟩
          have hidx : arr.findIdx? (fun e => ((e.born : Int) == (born : Int))) = some i := by
            have ha : arr = (es.map (entryOf φ)).toArray := by apply Array.ext'; simpa using a3
            rw [ha, List.findIdx?_toArray, ← hi]
            exact findIdx_entries es
          simp [Instr.entryStore, conc, a1, asInt, asIntOf, hidx, k1]
        · simp at h
      · simp at h
    · simp at h
  · simp at h
theorem map_erase {α β : Type} (g : α → β) : ∀ (l : List α) (i : Nat), (l.map g).eraseIdx i = (l.eraseIdx i).map g := by
  intro l
  induction l with
  | nil => intro i; rfl
  | cons a l ih => intro i; cases i with
    | zero => rfl
    | succ i => simp [ih]
theorem delete_sound (hr : HRel C φ D S nx B w) {t : Nat} {m k : AV} {res : ARes} {ats : Array TypeId} {ty : TypeId} (h0 : ats[0]? = some t) (gm : good D m) (gk : good D k) (h : aDelete C S nx t m k = some res) :
    ∃ v S', res = .vals v S' nx ∧ DoneV C φ D S nx B w (Builtin.delete_ ats ty #[conc φ m, conc φ k]) v S' nx := by
  unfold aDelete at h
  split at h
  · rename_i kt et r hu
    split at h
    · rename_i es clock ho
      simp only [cnd_none] at h
      obtain ⟨hko, h⟩ := h
      obtain ⟨kd, hkd⟩ := keyType_some hko
      obtain ⟨arr, a1, a2, a3, a4⟩ := map_of_rel hr gm ho
      have h1 := aKeyOk_sound (C := C) (φ := φ) (D := D) (w := w) (e := arr.isEmpty) 20 10000 kt k (by decide) gk hko
      split at h
      · rename_i i u hf
        have h2 := findKey_sound hr hkd gk a4 hf
        obtain ⟨rfl, hb⟩ := setObj_vals h
        obtain ⟨_, e, he, rfl⟩ := findKey_good es 0 i u hf
        simp only [Nat.sub_zero] at he
        have hlt : i < arr.size := by
          have := (List.getElem?_eq_some_iff.1 he).1
          rw [← Array.length_toList, a3, List.length_map]; exact this
        obtain ⟨w', k1, k2, k3⟩ := putMap hr (lim := nx) hb gm ho (clock' := clock) (es' := es.eraseIdx i) (arr' := arr.eraseIdxIfInBounds i) (by rw [Array.toList_eraseIdxIfInBounds, a3, map_erase])
          (fun e he => a4 e (List.mem_of_mem_eraseIdx he))
        refine ⟨_, _, rfl, φ, D, w', ?_, trivial, k2, k3, Nat.le_refl _⟩
        simp [Builtin.delete_, h0, run_underlying hu, conc, concs, a1, h1, a3, h2, cFound, k1]
      · rename_i hf
        have h2 := findKey_sound hr hkd gk a4 hf
        obtain ⟨rfl, hb⟩ := setObj_vals h
        obtain ⟨w', k1, k2, k3⟩ := putMap hr (lim := nx) hb gm ho (clock' := clock) (es' := es) a3 a4
        refine ⟨_, _, rfl, φ, D, w', ?_, trivial, k2, k3, Nat.le_refl _⟩
        simp [Builtin.delete_, h0, run_underlying hu, conc, concs, a1, h1, a3, h2, cFound, k1]
      · simp at h
    · simp at h
  · simp at h
theorem makeSlice_sound (hr : HRel C φ D S nx B w) (hB : B ≤ w.heap.size) {t : Nat} {l c : Operand} {ρ : Operand → Value} {ρ' : Operand → Option AV} {res : ARes} (hρ : Ev φ D ρ ρ' [l, c]) (h : hMakeSlice C t l c S nx ρ' = some res) :
    ∃ v S' nx', res = .vals v S' nx' ∧ DoneV C φ D S nx B w (Instr.makeSlice t (ρ l) (ρ c)) v S' nx' := by
  unfold hMakeSlice at h
  split at h
  · rename_i elem la ca hu hl hc
    obtain ⟨el, _⟩ := hρ l (by simp) _ hl
    obtain ⟨ec, _⟩ := hρ c (by simp) _ hc
    rw [el, ec]
    split at h
    · rename_i ln cn i z hln hcn hi hz
      obtain ⟨q1, rfl⟩ := natOf_some hln
      obtain ⟨q2, rfl⟩ := natOf_some hcn
      simp only [cnd_none, Bool.and_eq_true] at h
      obtain ⟨⟨⟨⟨⟨h1, h2⟩, h3⟩, h4⟩, h5⟩, h⟩ := h
      have h1 := ble_le h1
      have h2 := ble_le h2
      have h3 := ble_le h3
      have h4 := blt_lt h4
      have h5 : z.cells.length = i.size := Nat.eq_of_beq_eq_true h5
      have := newAt_vals h; subst this
      obtain ⟨z1, z2⟩ := run_zeroOf hz φ D w
      refine ⟨_, _, _, rfl, newObj_done hr hB (o := .cells (concs φ (repl cn z.cells)).toArray elem) ?_ (.inr rfl) ?_ ⟨fun _ _ _ h => (by cases h), fun _ _ _ h => (by cases h; rw [← h5, ← repl_len]; exact ofList_lt)⟩⟩
      · have w1 := wrap_small (n := ln) (by omega)
        have w2 := wrap_small h2
        have hb1 : ¬ ((281474976710656 : Int) < (i.bytes : Int) * (cn : Int)) := by
          rw [Int.mul_comm]; exact bytes_ok h2 h3
        have hc0 : ¬ ((cn : Int) < 0) := by omega
        have hl0 : ¬ ((ln : Int) < 0) := by omega
        have hlc : ¬ ((cn : Int) < (ln : Int)) := by omega
        have hrange := range_zeros φ z.cells i.size cn h5 (if cn * i.size = 0 then #[] else (conc φ z).cells) (fun hne => by rw [if_neg hne, cells_conc])
        by_cases hz0 : cn * i.size = 0
        · rw [if_pos hz0] at hrange
          rw [← hrange]
          simp [Instr.makeSlice, run_underlying hu, conc, asInt, asIntOf, typeInfo, hi, w1, w2, hb1, hc0, hl0, hlc, sizeOf, hz0, newRow, upd_self]
        · rw [if_neg hz0] at hrange
          rw [← hrange]
          simp [Instr.makeSlice, run_underlying hu, conc, asInt, asIntOf, typeInfo, hi, w1, w2, hb1, hc0, hl0, hlc, sizeOf, hz0, newRow, upd_self, z1]
      · have g := goods_repl (cells_good z2) cn
        have := cells_new (C := C) (φ := upd φ nx ⟨w.heap.size, 0, 0⟩) (D := add D nx) (goods_mono (fun _ h => .inl h) _ g) elem 0 w
        rw [concs_keep (upd_keep (not_dom hr)) g, repl_len, h5] at this
        exact this
    · simp at h
  · simp at h
theorem makeMap_sound (hr : HRel C φ D S nx B w) (hB : B ≤ w.heap.size) {t : Nat} {r : Operand} {ρ : Operand → Value} {ρ' : Operand → Option AV} {res : ARes} (hρ : Ev φ D ρ ρ' [r]) (h : hMakeMap C t r S nx ρ' = some res) :
    ∃ v S' nx', res = .vals v S' nx' ∧ DoneV C φ D S nx B w (Instr.makeMap t (some (ρ r))) v S' nx' := by
  unfold hMakeMap at h
  split at h
  · rename_i kt et q n hu hx
    obtain ⟨e, _⟩ := hρ r (by simp) _ hx
    have := newAt_vals h; subst this
    refine ⟨_, _, _, rfl, newObj_done hr hB (o := .map #[] 0) ?_ (.inr rfl) ⟨#[], heap_new _ _, rfl, by simp⟩ ⟨fun _ _ _ h => (by cases h), fun _ _ _ h => (by cases h)⟩⟩
    simp [Instr.makeMap, run_underlying hu, e, conc, asInt, asIntOf, upd_self]
  · simp at h
theorem range_sound (hr : HRel C φ D S nx B w) (hB : B ≤ w.heap.size) {t : Nat} {x : Operand} {ρ : Operand → Value} {ρ' : Operand → Option AV} {res : ARes} (hρ : Ev φ D ρ ρ' [x]) (h : hRange C t x S nx ρ' = some res) :
    ∃ v S' nx', res = .vals v S' nx' ∧ DoneV C φ D S nx B w (Instr.range t (ρ x)) v S' nx' := by
  have hφ := upd_keep (φ := φ) (pl := ⟨w.heap.size, 0, 0⟩) (not_dom hr)
  unfold hRange at h
  split at h
  · rename_i s hu hx
    obtain ⟨e, g⟩ := hρ x (by simp) _ hx
    have := newAt_vals h; subst this
    refine ⟨_, _, _, rfl, newObj_done hr hB (o := .stringIter (bytesOf s) 0) ?_ (.inr rfl) ⟨rfl, heap_new _ _, g⟩ ⟨fun _ _ _ h => (by cases h), fun _ _ _ h => (by cases h)⟩⟩
    simp [Instr.range, run_underlying hu, e, conc, upd_self]
  · rename_i kt et hu hx
    obtain ⟨e, g⟩ := hρ x (by simp) _ hx
    have := newAt_vals h; subst this
    refine ⟨_, _, _, rfl, newObj_done hr hB (o := .mapIter none 0 #[] 0) ?_ (.inr rfl) ⟨rfl, heap_new _ _, by simp⟩ ⟨fun _ _ _ h => (by cases h), fun _ _ _ h => (by cases h)⟩⟩
    simp [Instr.range, run_underlying hu, e, conc, upd_self]
  · rename_i kt et r hu hx
    obtain ⟨e, g⟩ := hρ x (by simp) _ hx
    split at h
    · rename_i es clock ho
      have := newAt_vals h; subst this
      obtain ⟨arr, a1, a2, a3, a4⟩ := map_of_rel hr g ho
      refine ⟨_, _, _, rfl, newObj_done hr hB (o := .mapIter (some (φ r).blk) clock #[] clock) ?_ (.inr rfl) ⟨rfl, ?_, fun b hb => by cases hb; exact .inl g⟩ ⟨fun _ _ _ h => (by cases h), fun _ _ _ h => (by cases h)⟩⟩
      · simp [Instr.range, run_underlying hu, e, conc, upd_self, a1]
      · rw [heap_new]; simp only [Option.map_some, hφ r g]
    · simp at h
  · simp at h
end
end Go.AE

namespace Go.AE
open Go.RowKit (Below)
section
variable {C : Cfg} {φ φ' : Phi} {D D' : Nat → Prop} {S S' : Tr AObj} {nx nx' B : Nat} {w w' : World}

theorem Ext.drew {lim : Nat} (h : Ext C lim φ D S B w.drew φ' D' S' w') : Ext C lim φ D S B w φ' D' S' w' :=
  ⟨h.phi, h.dom, h.new, h.keep, (Below.drew (Below.refl B w)).trans h.below⟩
theorem memN_iff (n : Nat) : ∀ l, memN n l = l.contains n := by
  intro l
  induction l with
  | nil => rfl
  | cons a l ih => simp only [memN, List.contains_cons, ih]; congr 1; rw [Bool.eq_iff_iff, beq_iff_eq]; exact ⟨Nat.eq_of_beq_eq_true, fun h => by rw [h]; exact Nat.beq_refl _⟩
theorem unseen_eq (seen : List Nat) : ∀ es : List (AV × AV × Nat), (es.map (entryOf φ)).filter (fun e => !seen.contains e.born) = (unseen seen es).map (entryOf φ) := by
  intro es
  induction es with
  | nil => rfl
  | cons e es ih =>
    have hb : (entryOf φ e).born = e.2.2 := rfl
    simp only [List.map_cons, List.filter_cons, unseen, ← memN_iff, hb]
    simp only [← memN_iff] at ih
    cases memN e.2.2 seen <;> simp [ih]
theorem unseen_mem (seen : List Nat) : ∀ (es : List (AV × AV × Nat)) e, e ∈ unseen seen es → e ∈ es := by
  intro es
  induction es with
  | nil => intro e h; simp [unseen] at h
  | cons a es ih =>
    intro e h
    simp only [unseen] at h
    cases hm : memN a.2.2 seen <;> simp only [hm, cnd_true, cnd_false] at h
    · rcases List.mem_cons.1 h with h | h
      · simp [h]
      · exact List.mem_cons_of_mem _ (ih e h)
    · exact List.mem_cons_of_mem _ (ih e h)
theorem allOld_iff (since : Nat) : ∀ es : List (AV × AV × Nat), allOld since es = true → ∀ e ∈ es, e.2.2 < since := by
  intro es
  induction es with
  | nil => intro _ e h; simp at h
  | cons a es ih =>
    intro h e he
    simp only [allOld, Bool.and_eq_true] at h
    rcases List.mem_cons.1 he with rfl | he
    · exact blt_lt h.1
    · exact ih h.2 e he
theorem anyOld_iff (since : Nat) : ∀ es : List (AV × AV × Nat), anyOld since es = true → ∃ e ∈ es, e.2.2 < since := by
  intro es
  induction es with
  | nil => intro h; simp [anyOld] at h
  | cons a es ih =>
    intro h
    simp only [anyOld, Bool.or_eq_true] at h
    rcases h with h | h
    · exact ⟨a, by simp, blt_lt h⟩
    · obtain ⟨e, he, h⟩ := ih h; exact ⟨e, by simp [he], h⟩
theorem arr_eq {arr : Array MapEntry} {es : List (AV × AV × Nat)} (h : arr.toList = es.map (entryOf φ)) : arr = (es.map (entryOf φ)).toArray := by apply Array.ext'; simpa using h

/-- the step of an iterator over a map that is not nil -/
theorem next_map (hr : HRel C φ D S nx B w) {lim r m since stepped clock : Nat} {seen : List Nat} {es : List (AV × AV × Nat)} {ty : TypeId} (hb : C.n0 ≤ r) (hd : D r) (ho : hget C S r = some (.mit (some m) since seen stepped))
    (hm : hget C S m = some (.map es clock)) (hall : allOld since es = true) (hany : anyOld stepped es = true) (hne : unseen seen es ≠ []) :
    ∃ e, e ∈ unseen seen es ∧ ∃ w', (Instr.next (.pointer (some ⟨(φ r).blk, 0, none⟩)) false ty).run C.P w = .ok (.tuple #[.bool true, conc φ e.1, conc φ e.2.1]) w' ∧
      HRel C φ D (hset C S r (some (.mit (some m) since (seen ++ [e.2.2]) clock))) nx B w' ∧ Ext C lim φ D S B w φ D (hset C S r (some (.mit (some m) since (seen ++ [e.2.2]) clock))) w' ∧ good D e.1 ∧ good D e.2.1 := by
  obtain ⟨hsh, h1, h2⟩ := hr.obj r _ ho hd
  have hdm := h2 m rfl
  obtain ⟨arr, a1, a2, a3, a4⟩ := map_of_rel hr hdm hm
  have harr := arr_eq a3
  have hget : (getObj (φ r).blk).run C.P w = .ok (.mapIter (some (φ m).blk) since seen.toArray stepped) w := by simp [getObj, Sem.run, h1]
  have hnot : (arr.all fun e => decide (e.born ≥ stepped)) = false := by
    obtain ⟨e, he, hlt⟩ := anyOld_iff stepped es hany
    rw [harr, List.all_toArray]
    rw [List.all_eq_false]
    exact ⟨entryOf φ e, List.mem_map.2 ⟨e, he, rfl⟩, by simp [entryOf]; omega⟩
  have hleft : (arr.filter fun e => !seen.toArray.contains e.born) = ((unseen seen es).map (entryOf φ)).toArray := by
    rw [harr, List.filter_toArray]
    congr 1
    rw [← unseen_eq]
    apply List.filter_congr
    intro x _
    simp
  have hold : ((unseen seen es).map (entryOf φ)).toArray.filter (fun e => decide (e.born < since)) = ((unseen seen es).map (entryOf φ)).toArray := by
    rw [List.filter_toArray]
    congr 1
    rw [List.filter_eq_self]
    intro x hx
    obtain ⟨e, he, rfl⟩ := List.mem_map.1 hx
    simp only [decide_eq_true_eq]
    exact allOld_iff since es hall e (unseen_mem seen es e he)
  have hnew : ((unseen seen es).map (entryOf φ)).toArray.filter (fun e => decide (e.born ≥ since)) = #[] := by
    rw [List.filter_toArray]
    have : ((unseen seen es).map (entryOf φ)).filter (fun e => decide (e.born ≥ since)) = [] := by
      rw [List.filter_eq_nil_iff]
      intro x hx
      obtain ⟨e, he, rfl⟩ := List.mem_map.1 hx
      have := allOld_iff since es hall e (unseen_mem seen es e he)
      simp [entryOf]; omega
    rw [this]
  have hemp : ((unseen seen es).map (entryOf φ)).toArray.isEmpty = false := by simpa using hne
  have hlen : 0 < (unseen seen es).length := List.length_pos_iff.2 hne
  -- which of them
  have key : ∀ (j : Nat) (w1 : World), j < (unseen seen es).length → w1.heap = w.heap → HRel C φ D S nx B w1 → Below B w w1 → (choose (.mapNext (unseen seen es).length)).run C.P w = .ok j w1 →
      ∃ e, e ∈ unseen seen es ∧ ∃ w', (Instr.next (.pointer (some ⟨(φ r).blk, 0, none⟩)) false ty).run C.P w = .ok (.tuple #[.bool true, conc φ e.1, conc φ e.2.1]) w' ∧
        HRel C φ D (hset C S r (some (.mit (some m) since (seen ++ [e.2.2]) clock))) nx B w' ∧ Ext C lim φ D S B w φ D (hset C S r (some (.mit (some m) since (seen ++ [e.2.2]) clock))) w' ∧ good D e.1 ∧ good D e.2.1 := by
    intro j w1 hj hheap hr1 hbel hch
    have he := List.getElem?_eq_getElem hj
    have hmem : (unseen seen es)[j] ∈ unseen seen es := List.getElem_mem hj
    have hg := a4 _ (unseen_mem seen es _ hmem)
    obtain ⟨w', k1, k2, k3⟩ := putObj hr1 (lim := lim) (ob' := .mit (some m) since (seen ++ [(unseen seen es)[j].2.2]) clock) (o' := .mapIter (some (φ m).blk) since (seen.toArray.push (unseen seen es)[j].2.2) clock) hb hd ho ⟨by simp, by simp⟩
      (by rw [hheap]; exact h1) (by simp) (fun w' hw' => ⟨hsh, by rw [hw']; simp, fun b hb => h2 b hb⟩) ⟨fun _ _ _ h => (by cases h), fun _ _ _ h => (by cases h)⟩
    refine ⟨(unseen seen es)[j], hmem, w', ?_, k2, ⟨k3.phi, k3.dom, k3.new, k3.keep, hbel.trans k3.below⟩, hg.1, hg.2⟩
    have hcand : (((unseen seen es).map (entryOf φ)).toArray ++ (#[] : Array MapEntry)).map some = ((unseen seen es).map (fun e => some (entryOf φ e))).toArray := by simp
    simp only [Instr.next, Sem.run_bind, hget, Result.andThen_ok, a1, hnot, Bool.and_false, Bool.false_eq_true, if_false, hleft, hold, hnew, hemp]
    rw [Array.empty_append, hcand]
    simp only [List.size_toArray, List.length_map, hch, Result.andThen_ok, List.getElem?_toArray, List.getElem?_map, he, Option.map_some]
    have hbo : (entryOf φ (unseen seen es)[j]).born = (unseen seen es)[j].2.2 := rfl
    simp only [hbo, Sem.run_bind, k1, Result.andThen_ok, Sem.run_pure]
    rfl
  by_cases hone : (unseen seen es).length ≤ 1
  · refine key 0 w hlen rfl hr (Below.refl _ _) ?_
    simp [Question.forced, hone]
  · refine key ((w.tape w.drawn (.mapNext (unseen seen es).length)) % (unseen seen es).length) w.drew (Nat.mod_lt _ hlen) rfl hr.drew (Below.drew (Below.refl _ _)) ?_
    simp [Question.forced, hone, Question.cut]
theorem forks_mem {r m since clock : Nat} {seen : List Nat} : ∀ (l : List (AV × AV × Nat)) e, e ∈ l → (AV.tuple [.bool true, e.1, e.2.1], hset C S r (some (.mit (some m) since (seen ++ [e.2.2]) clock))) ∈ forks C S r m since clock seen l := by
  intro l
  induction l with
  | nil => intro e h; simp at h
  | cons a l ih =>
    intro e h
    obtain ⟨k, v, b⟩ := a
    simp only [forks]
    rcases List.mem_cons.1 h with rfl | h
    · exact List.mem_cons_self ..
    · exact List.mem_cons_of_mem _ (ih e h)
/-- what a step comes to: one answer, or one of several -/
def OneOf (C : Cfg) (φ : Phi) (D : Nat → Prop) (S : Tr AObj) (nx B : Nat) (w : World) (s : Sem Value) (res : ARes) : Prop := match res with
  | .val v => DoneV C φ D S nx B w s v S nx
  | .vals v S' nx' => DoneV C φ D S nx B w s v S' nx'
  | .fork l => ∃ v S', (v, S') ∈ l ∧ DoneV C φ D S nx B w s v S' nx
  | _ => False
theorem choicesN_mem {r : Nat} {o : Option Nat → AObj} : ∀ (l : List (AV × AV × Nat)) e, e ∈ l → (AV.tuple [.bool true, e.1, e.2.1], hset C S r (some (o (some e.2.2)))) ∈ choicesN C S r o l := by
  intro l
  induction l with
  | nil => intro e h; simp at h
  | cons a l ih =>
    intro e h
    obtain ⟨k, v, b⟩ := a
    simp only [choicesN]
    rcases List.mem_cons.1 h with rfl | h
    · exact List.mem_cons_self ..
    · exact List.mem_cons_of_mem _ (ih e h)
theorem bornsEq_map : ∀ (es : List (AV × AV × Nat)) (bs : List Nat), bornsEq es bs = true → bs = es.map (·.2.2) := by
  intro es
  induction es with
  | nil => intro bs h; cases bs <;> simp [bornsEq] at h; rfl
  | cons e es ih =>
    intro bs h
    cases bs with
    | nil => simp [bornsEq] at h
    | cons b bs =>
      simp only [bornsEq, Bool.and_eq_true] at h
      rw [List.map_cons, ← ih bs h.2, Nat.eq_of_beq_eq_true h.1]
theorem unseen_len (seen : List Nat) : ∀ es : List (AV × AV × Nat), ((es.map (·.2.2)).filter fun b => !seen.contains b).length = (unseen seen es).length := by
  intro es
  induction es with
  | nil => rfl
  | cons e es ih =>
    simp only [List.map_cons, List.filter_cons, unseen, ← memN_iff]
    simp only [← memN_iff] at ih
    cases memN e.2.2 seen <;> simp [ih]
theorem filter_le' {p q : Nat → Bool} (h : ∀ x, q x = true → p x = true) : ∀ bs : List Nat, (bs.filter q).length ≤ (bs.filter p).length := by
  intro bs
  induction bs with
  | nil => simp
  | cons a bs ih =>
    cases hq : q a with
    | true => simp [List.filter_cons, hq, h a hq]; exact ih
    | false => cases hp : p a <;> simp [List.filter_cons, hq, hp] <;> omega
theorem filter_lt' {p q : Nat → Bool} (h : ∀ x, q x = true → p x = true) {b : Nat} (hp : p b = true) (hq : q b = false) : ∀ bs : List Nat, b ∈ bs → (bs.filter q).length < (bs.filter p).length := by
  intro bs
  induction bs with
  | nil => intro hb; cases hb
  | cons a bs ih =>
    intro hb
    by_cases e : a = b
    · subst e
      have := filter_le' h bs
      simp [List.filter_cons, hq, hp]; omega
    · have hb' : b ∈ bs := by
        rcases List.mem_cons.1 hb with q | q
        · exact absurd q.symm e
        · exact q
      have := ih hb'
      cases hqa : q a with
      | true => simp [List.filter_cons, hqa, h a hqa]; exact this
      | false => cases hpa : p a <;> simp [List.filter_cons, hqa, hpa] <;> omega
theorem filter_less {seen : List Nat} {b : Nat} (bs : List Nat) (hb : b ∈ bs) (hs : seen.contains b = false) : (bs.filter fun x => !(seen ++ [b]).contains x).length < (bs.filter fun x => !seen.contains x).length := by
  refine filter_lt' (p := fun x => !seen.contains x) (q := fun x => !(seen ++ [b]).contains x) (fun x hx => ?_) (by rw [hs]; rfl) (by simp) bs hb
  simp at hx ⊢
  exact hx.1
theorem unseen_not (seen : List Nat) : ∀ (es : List (AV × AV × Nat)) e, e ∈ unseen seen es → seen.contains e.2.2 = false := by
  intro es
  induction es with
  | nil => intro e h; simp [unseen] at h
  | cons a es ih =>
    intro e h
    simp only [unseen] at h
    cases hm : memN a.2.2 seen <;> simp only [hm, cnd_true, cnd_false] at h
    · rcases List.mem_cons.1 h with h | h
      · rw [h, ← memN_iff]; exact hm
      · exact ih e h
    · exact ih e h
/-- an object is told of in other words -/
theorem HRel.recast (hr : HRel C φ D S nx B w) {b : Nat} {ob ob' : AObj} (hb : C.n0 ≤ b) (hd : D b) (hob : hget C S b = some ob) (ha : Alone ob) (hS : hget C S' b = some ob') (hS' : ∀ x, x ≠ b → hget C S' x = hget C S x) (ho : ORel C φ D ob' (φ b) w) (hol : OldsIn C D ob') : HRel C φ D S' nx B w :=
  hr.put hb hd hob hS (fun x hx => .inl (hS' x hx)) (fun _ _ => rfl) (fun x ox hne hx dx heq => by rw [hS' x hne] at hx; exact hr.alone hb hd hob ha x ox hne hx dx heq) ho hol
theorem next_sound (hr : HRel C φ D S nx B w) {it : Operand} {isString : Bool} {ty : TypeId} {ρ : Operand → Value} {ρ' : Operand → Option AV} {res : ARes} (hρ : Ev φ D ρ ρ' [it]) (h : hNext C it isString S nx ρ' = some res) :
    OneOf C φ D S nx B w (Instr.next (ρ it) isString ty) res := by
  unfold hNext at h
  split at h
  · rename_i r hx
    obtain ⟨e, gd⟩ := hρ it (by simp) _ hx
    simp only [cnd_none] at h
    obtain ⟨hdyn, h⟩ := h
    have hb : C.n0 ≤ r := ble_le hdyn
    rw [e]
    split at h
    · rename_i s pos ho
      obtain ⟨hsh, h1, h2⟩ := hr.obj r _ ho gd
      have hget : (getObj (φ r).blk).run C.P w = .ok (.stringIter (bytesOf s) pos) w := by simp [getObj, Sem.run, h1]
      have hsz : (bytesOf s).size = s.length := by simp [bytesOf, ByteArray.size]
      rw [cnd_ite] at h
      split at h
      · rename_i hp
        have hp := blt_lt hp
        rw [nth_eq] at h
        split at h
        · rename_i c hc
          simp only [cnd_none] at h
          obtain ⟨hc8, h⟩ := h
          have hc8 := blt_lt hc8
          obtain ⟨rfl, _⟩ := setObj_vals h
          obtain ⟨w', k1, k2, k3⟩ := putObj hr (lim := nx) (ob' := .sit s (pos + 1)) (o' := .stringIter (bytesOf s) (pos + 1)) hb gd ho ⟨by simp, by simp⟩ h1 (by simp) (fun w' hw' => ⟨hsh, hw', h2⟩) ⟨fun _ _ _ h => (by cases h), fun _ _ _ h => (by cases h)⟩
          refine ⟨φ, D, w', ?_, ⟨trivial, trivial, trivial, trivial⟩, k2, k3, Nat.le_refl _⟩
          have hlt : pos < (bytesOf s).size := by rw [hsz]; exact hp
          have hbyte : ((bytesOf s)[pos]'hlt).toNat = c := by
            show ((bytesOf s).data[pos]).toNat = c
            have hs : s[pos] = c := by
              rw [List.getElem?_eq_getElem hp] at hc
              exact Option.some.inj hc
            simp [bytesOf, hs]; omega
          have hdec := decode_ascii (bytesOf s) pos hlt (by rw [hbyte]; exact hc8)
          rw [hbyte] at hdec
          simp [Instr.next, conc, concs, hsh, hget, hsz, hp, hdec, k1, goInt]
        · simp at h
      · rename_i hp
        have hp : ¬ pos < s.length := fun q => hp (by simp [Nat.blt]; omega)
        simp at h; subst h
        refine DoneV.same hr ?_ ⟨trivial, trivial⟩
        simp [Instr.next, conc, concs, hsh, hget, hsz, hp]
    · rename_i since seen stepped ho
      obtain ⟨hsh, h1, h2⟩ := hr.obj r _ ho gd
      have hget : (getObj (φ r).blk).run C.P w = .ok (.mapIter none since seen.toArray stepped) w := by simp [getObj, Sem.run, h1]
      simp at h; subst h
      refine DoneV.same hr ?_ ⟨trivial, trivial⟩
      simp [Instr.next, conc, concs, hsh, hget]
    · rename_i m since seen stepped ho
      have hob := hr.obj r _ ho gd
      obtain ⟨hsh, h1, h2⟩ := hob
      split at h
      · rename_i es clock hm
        split at h
        · -- none is left
          rename_i hun
          simp only [cnd_none, Bool.or_eq_true, Option.some.injEq] at h
          obtain ⟨hall, hany, rfl⟩ := h
          obtain ⟨arr, a1, a2, a3, a4⟩ := map_of_rel hr (h2 m rfl) hm
          have harr := arr_eq a3
          have hget : (getObj (φ r).blk).run C.P w = .ok (.mapIter (some (φ m).blk) since seen.toArray stepped) w := by simp [getObj, Sem.run, h1]
          have hleft : (arr.filter fun e => !seen.toArray.contains e.born) = #[] := by
            rw [harr, List.filter_toArray]
            have := unseen_eq (φ := φ) seen es
            rw [hun] at this
            congr 1
            rw [List.map_nil] at this
            rw [← this]
            apply List.filter_congr
            intro x _
            simp
          have hnot : (!seen.toArray.isEmpty && !arr.isEmpty && arr.all fun e => decide (e.born ≥ stepped)) = false := by
            rcases hany with (hany | hany) | hany
            · obtain ⟨e, he, hlt⟩ := anyOld_iff stepped es hany
              have : (arr.all fun e => decide (e.born ≥ stepped)) = false := by
                rw [harr, List.all_toArray, List.all_eq_false]
                exact ⟨entryOf φ e, List.mem_map.2 ⟨e, he, rfl⟩, by simp [entryOf]; omega⟩
              rw [this]; simp
            · have : seen = [] := by simpa using hany
              simp [this]
            · have : es = [] := by simpa using hany
              simp [harr, this]
          refine DoneV.same hr ?_ ⟨trivial, trivial⟩
          simp only [conc, concs, hsh, Nat.zero_add, Instr.next, Sem.run_bind, hget, Result.andThen_ok, a1, hnot, Bool.false_eq_true, if_false, hleft]
          simp [Question.forced]
        · rename_i k v b hun
          simp only [cnd_none, Bool.and_eq_true] at h
          obtain ⟨⟨hall, hany⟩, h⟩ := h
          obtain ⟨rfl, _⟩ := setObj_vals h
          obtain ⟨e, he, w', k1, k2, k3, g1, g2⟩ := next_map hr (lim := nx) (ty := ty) hb gd ho hm hall hany (by rw [hun]; simp)
          rw [hun] at he
          have : e = (k, v, b) := by simpa using he
          subst this
          refine ⟨φ, D, w', ?_, ⟨trivial, g1, g2, trivial⟩, k2, k3, Nat.le_refl _⟩
          simp only [conc, concs, hsh, Nat.zero_add]
          exact k1
        · rename_i l hn1 hn2
          simp only [cnd_none, Bool.and_eq_true, Option.some.injEq] at h
          obtain ⟨⟨hall, hany⟩, rfl⟩ := h
          obtain ⟨e, he, w', k1, k2, k3, g1, g2⟩ := next_map hr (lim := nx) (ty := ty) hb gd ho hm hall hany hn1
          refine ⟨_, _, forks_mem _ e he, φ, D, w', ?_, ⟨trivial, g1, g2, trivial⟩, k2, k3, Nat.le_refl _⟩
          simp only [conc, concs, hsh, Nat.zero_add]
          exact k1
      · simp at h
    · rename_i m since n bs st cur ho
      obtain ⟨hsh, hdm, seen, h1, h2, _⟩ := hr.obj r _ ho gd
      split at h
      · rename_i es clock hm
        simp only [cnd_none, Bool.and_eq_true] at h
        obtain ⟨⟨⟨hbs, hst⟩, hall, hany⟩, h⟩ := h
        have hst := Nat.eq_of_beq_eq_true hst
        subst hst
        have hbs := bornsEq_map es bs hbs
        subst hbs
        rw [unseen_len] at h2
        have hmr : m ≠ r := fun e => by rw [e, ho] at hm; cases hm
        have hal : ∀ c, Alone (.mitN m since n (es.map (·.2.2)) st c) := fun c => ⟨by simp, by simp⟩
        have hself : hget C (hset C S r (some (.mit (some m) since seen st))) r = some (.mit (some m) since seen st) := by rw [hget_hset _ hb, if_pos rfl]
        have helse : ∀ x, x ≠ r → hget C (hset C S r (some (.mit (some m) since seen st))) x = hget C S x := fun x hx => by rw [hget_hset _ hb, if_neg hx]
        have hr0 : HRel C φ D (hset C S r (some (.mit (some m) since seen st))) nx B w :=
          hr.recast hb gd ho (hal _) hself helse ⟨hsh, by rw [h1]; rfl, fun b hb => by cases hb; exact hdm⟩ ⟨fun _ _ _ h => (by cases h), fun _ _ _ h => (by cases h)⟩
        have hover : unseen seen es = [] → DoneV C φ D S nx B w (Instr.next (conc φ (.ptr r 0)) false ty) (.tuple [.bool false]) S nx := by
          intro hun
          obtain ⟨arr, a1, a2, a3, a4⟩ := map_of_rel hr hdm hm
          have harr := arr_eq a3
          have hget : (getObj (φ r).blk).run C.P w = .ok (.mapIter (some (φ m).blk) since seen.toArray st) w := by simp [getObj, Sem.run, h1]
          have hleft : (arr.filter fun e => !seen.toArray.contains e.born) = #[] := by
            rw [harr, List.filter_toArray]
            have := unseen_eq (φ := φ) seen es
            rw [hun] at this
            congr 1
            rw [List.map_nil] at this
            rw [← this]
            apply List.filter_congr
            intro x _
            simp
          have hnot : (!seen.toArray.isEmpty && !arr.isEmpty && arr.all fun e => decide (e.born ≥ st)) = false := by
            obtain ⟨e, he, hlt⟩ := anyOld_iff st es hany
            have : (arr.all fun e => decide (e.born ≥ st)) = false := by
              rw [harr, List.all_toArray, List.all_eq_false]
              exact ⟨entryOf φ e, List.mem_map.2 ⟨e, he, rfl⟩, by simp [entryOf]; omega⟩
            rw [this]; simp
          refine DoneV.same hr ?_ ⟨trivial, trivial⟩
          simp only [conc, concs, hsh, Nat.zero_add, Instr.next, Sem.run_bind, hget, Result.andThen_ok, a1, hnot, Bool.false_eq_true, if_false, hleft]
          simp [Question.forced]
        split at h
        · simp at h; subst h
          exact hover (List.length_eq_zero_iff.1 (by omega))
        · rename_i n
          simp at h; subst h
          by_cases hun : unseen seen es = []
          · exact ⟨_, _, List.mem_cons_self .., hover hun⟩
          · obtain ⟨e, he, w', k1, k2, k3, g1, g2⟩ := next_map hr0 (lim := nx) (ty := ty) hb gd hself (by rw [helse m hmr]; exact hm) hall hany hun
            refine ⟨_, _, List.mem_cons_of_mem _ (choicesN_mem es e (unseen_mem seen es e he)), φ, D, w', ?_, ⟨trivial, g1, g2, trivial⟩, ?_, ?_, Nat.le_refl _⟩
            · simp only [conc, concs, hsh, Nat.zero_add]
              exact k1
            · have hs1 : hget C (hset C (hset C S r (some (.mit (some m) since seen st))) r (some (.mit (some m) since (seen ++ [e.2.2]) st))) r = some (.mit (some m) since (seen ++ [e.2.2]) st) := by rw [hget_hset _ hb, if_pos rfl]
              obtain ⟨q1, q2, q3⟩ := k2.obj r _ hs1 gd
              refine k2.recast (ob' := .mitN m since n (es.map (·.2.2)) st (some e.2.2)) hb gd hs1 ⟨by simp, by simp⟩ (by rw [hget_hset _ hb, if_pos rfl]) (fun x hx => by rw [hget_hset _ hb, if_neg hx, hget_hset _ hb, if_neg hx, helse x hx]) ⟨q1, hdm, seen ++ [e.2.2], by rw [q2]; rfl, ?_, fun b hb => by cases hb; rw [lastN_eq]; simp⟩ ⟨fun _ _ _ h => (by cases h), fun _ _ _ h => (by cases h)⟩
              have hlt := filter_less (seen := seen) (b := e.2.2) (es.map (·.2.2)) (List.mem_map.2 ⟨e, unseen_mem seen es e he, rfl⟩) (unseen_not seen es e he)
              rw [unseen_len seen] at hlt
              exact Nat.le_of_lt_succ (Nat.lt_of_lt_of_le hlt h2)
            · refine ⟨k3.phi, k3.dom, k3.new, fun x hx hl => ?_, k3.below⟩
              have hne : x ≠ r := fun q => hx (q ▸ gd)
              rw [hget_hset _ hb, if_neg hne]
      · simp at h
    · simp at h
  · simp at h
end
end Go.AE

namespace Go.AE
open Go.RowKit (Below)
section
variable {C : Cfg} {φ φ' : Phi} {D D' : Nat → Prop} {S S' : Tr AObj} {nx nx' B : Nat} {w w' : World}

theorem getN_of (t : Tr AV) : ∀ (n o : Nat) (l : List AV), l.length = n → (∀ i, i < n → t.get (o + i) = l[i]?) → t.getN o n = some l := by
  intro n
  induction n with
  | zero => intro o l h _; cases l with
    | nil => rfl
    | cons _ _ => simp at h
  | succ n ih =>
    intro o l h hg
    cases l with
    | nil => simp at h
    | cons a l =>
      have h0 := hg 0 (by omega)
      simp at h0
      have := ih (o + 1) l (by simpa using h) (fun i hi => by
        have := hg (i + 1) (by omega)
        rw [show o + 1 + i = o + (i + 1) by omega, this]; simp)
      simp [Tr.getN, h0, this]
theorem cellsAt_take {b o n m : Nat} {l : List AV} (h : cellsAt C S b o n = some l) (hm : m ≤ n) : cellsAt C S b o m = some (l.take m) := by
  unfold cellsAt at h ⊢
  split at h
  · rename_i c hc
    show Tr.getN _ o m = _
    obtain ⟨h1, h2⟩ := Tr.getN_spec _ _ _ _ h
    refine getN_of c m o _ (by simp; omega) fun i hi => ?_
    rw [h2 i (by omega), List.getElem?_take_of_lt hi]
  · simp only [cnd_none, Option.some.injEq] at h
    have hn : n = 0 := Nat.eq_of_beq_eq_true h.1
    have : m = 0 := by omega
    subst this
    simp [cnd]
theorem firstCells_src (hr : HRel C φ D S nx B w) {x : AV} {sz n m : Nat} {l : List AV} (gx : good D x) (h : srcCells C S sz x = some (n, l)) (hm : m ≤ n) :
    (Builtin.lenOf (conc φ x)).run C.P w = .ok n w ∧ (Builtin.firstCells sz m (conc φ x)).run C.P w = .ok (concs φ (l.take (m * sz))).toArray w ∧ goods D (l.take (m * sz)) := by
  unfold srcCells at h
  split at h
  · simp at h; obtain ⟨rfl, rfl⟩ := h
    simp [conc, Builtin.lenOf, Builtin.firstCells, concs, goods]
  · rename_i b o len cap
    split at h
    · rename_i l' hl
      simp at h; obtain ⟨rfl, rfl⟩ := h
      obtain ⟨h1, h2⟩ := cellsAt_of hr gx (cellsAt_take hl (Nat.mul_le_mul_right sz hm))
      refine ⟨?_, ?_, h2⟩ <;> simp [conc, Builtin.lenOf, Builtin.firstCells, h1]
    · simp at h
  · rename_i b o len cap
    split at h
    · rename_i l' hl
      simp at h; obtain ⟨rfl, rfl⟩ := h
      obtain ⟨h1, h2⟩ := cellsAt_of hr gx (cellsAt_take hl (Nat.mul_le_mul_right sz hm))
      refine ⟨?_, ?_, h2⟩ <;> simp [conc, Builtin.lenOf, Builtin.firstCells, h1]
    · simp at h
  · rename_i s
    simp only [cnd_none] at h
    obtain ⟨h1, h⟩ := h
    have h1 : sz = 1 := Nat.eq_of_beq_eq_true h1
    subst h1
    simp at h; obtain ⟨rfl, rfl⟩ := h
    have hsz : (bytesOf s).size = s.length := by simp [bytesOf, ByteArray.size]
    have gt : ∀ x ∈ s.take m, x < 256 := fun x hx => gx x (List.mem_of_mem_take hx)
    have he : (bytesOf s).extract 0 m = bytesOf (s.take m) := by
      apply ByteArray.ext
      rw [ByteArray.data_extract]
      apply Array.ext'
      simp [bytesOf]
    have hc := strCellsA φ (s.take m) gt
    refine ⟨by simp [conc, Builtin.lenOf, hsz], ?_, ?_⟩
    · simp only [conc, Builtin.firstCells, he, Sem.run_pure]
      rw [hc]
      simp [List.map_take]
    · rw [goods_iff]
      intro v hv
      have := List.mem_of_mem_take hv
      obtain ⟨y, _, rfl⟩ := List.mem_map.1 this
      trivial
  · simp at h
theorem copy_sound (hr : HRel C φ D S nx B w) {st : Nat} {d x : AV} {res : ARes} {ats : Array TypeId} {ty : TypeId} (h0 : ats[0]? = some st) (gd : good D d) (gx : good D x) (h : aCopy C S nx st d x = some res) :
    OneOf C φ D S nx B w (Builtin.copy_ ats ty #[conc φ d, conc φ x]) res := by
  unfold aCopy at h
  split at h
  · rename_i elem hu
    split at h
    · rename_i sz hsz
      split at h
      · rename_i n l hsrc
        have into : ∀ (b o len cap : Nat), D b → copyTo C S nx b o (min n len) (l.take (min n len * sz)) = some res →
            OneOf C φ D S nx B w (Builtin.copy_ ats ty #[.slice (some ⟨(φ b).blk, (φ b).sh + o, none⟩) len cap, conc φ x]) res := by
          intro b o len cap hb hc
          obtain ⟨h1, h2, h3⟩ := firstCells_src (m := min n len) hr gx hsrc (Nat.min_le_left _ _)
          have hmin : Nat.min n len = min n len := rfl
          unfold copyTo at hc
          rw [cnd_beq] at hc
          split at hc
          · rename_i hm
            simp at hc; subst hc
            refine DoneV.same hr ?_ trivial
            rw [hm] at h2
            simp [Builtin.copy_, h0, run_underlying hu, h1, hmin, hm, run_szOf hsz, h2, concs, storeCells, goInt, conc]
          · split at hc
            · rename_i S' hw
              simp at hc; subst hc
              obtain ⟨w', k1, k2, k3⟩ := aWrite_sound hr (lim := nx) hb h3 hw
              refine ⟨φ, D, w', ?_, trivial, k2, k3, Nat.le_refl _⟩
              have k1' : (storeCells ⟨(φ b).blk, (φ b).sh + o, none⟩ (concs φ (l.take (min n len * sz))).toArray.toList).run C.P w = .ok () w' := k1
              simp only [Builtin.copy_, h0, List.getElem?_toArray, List.getElem?_cons_zero, List.getElem?_cons_succ, Sem.run_bind, run_underlying hu, Result.andThen_ok, h1, hmin, run_szOf hsz, h2, k1', Sem.run_pure, goInt, conc]
            · simp at hc
        split at h
        · simp at h; subst h
          obtain ⟨h1, h2, h3⟩ := firstCells_src (m := 0) hr gx hsrc (Nat.zero_le _)
          refine DoneV.same hr ?_ trivial
          have hmin : Nat.min n 0 = 0 := Nat.min_zero n
          simp only [Nat.zero_mul, List.take_zero] at h2
          simp [Builtin.copy_, h0, run_underlying hu, h1, hmin, run_szOf hsz, h2, concs, goInt, conc]
        · exact into _ _ _ _ gd h
        · exact into _ _ _ _ gd h
        · simp at h
      · simp at h
    · simp at h
  · simp at h
theorem clear_sound (hr : HRel C φ D S nx B w) {t : Nat} {x : AV} {res : ARes} {ats : Array TypeId} {ty : TypeId} (h0 : ats[0]? = some t) (gx : good D x) (h : aClear C S nx t x = some res) :
    OneOf C φ D S nx B w (Builtin.clear_ ats ty #[conc φ x]) res := by
  unfold aClear at h
  split at h
  · rename_i elem hu
    split at h
    · rename_i sz z hsz hz
      obtain ⟨z1, z2⟩ := run_zeroOf hz φ D w
      simp only [cnd_none] at h
      obtain ⟨hlen, h⟩ := h
      have into : ∀ (b o len cap : Nat), D b → cnd (Nat.beq len 0) (some (ARes.val (.tuple []))) (match aWrite C S b o (repl len z.cells) with | some S => some (.vals (.tuple []) S nx) | none => none) = some res →
          OneOf C φ D S nx B w (Builtin.clear_ ats ty #[.slice (some ⟨(φ b).blk, (φ b).sh + o, none⟩) len cap]) res := by
        intro b o len cap hb hc
        rw [cnd_beq] at hc
        split at hc
        · rename_i hl
          subst hl
          simp at hc; subst hc
          refine DoneV.same hr ?_ trivial
          simp [Builtin.clear_, h0, run_underlying hu, conc, concs]
        · rename_i hl
          obtain ⟨len, rfl⟩ : ∃ k, len = k + 1 := ⟨len - 1, by omega⟩
          split at hc
          · rename_i S' hw
            simp at hc; subst hc
            obtain ⟨w', k1, k2, k3⟩ := aWrite_sound hr (lim := nx) hb (goods_repl (cells_good z2) _) hw
            refine ⟨φ, D, w', ?_, trivial, k2, k3, Nat.le_refl _⟩
            have hzc := zeroCells_repl φ z (len + 1)
            simp [Builtin.clear_, h0, run_underlying hu, conc, concs, z1, hzc, k1]
          · simp at hc
      split at h
      · simp at h; subst h
        refine DoneV.same hr ?_ trivial
        simp [Builtin.clear_, h0, run_underlying hu, conc, concs]
      · exact into _ _ _ _ gx h
      · exact into _ _ _ _ gx h
      · simp at h
    · simp at h
  · simp at h

theorem freeze_new (w : World) (arr : Array Value) (e : TypeId) (n : Nat) : (w.alloc (.cells arr e)).freeze ⟨w.heap.size, n, none⟩ 1 = w.alloc (.cells arr e (n, n + 1)) := by
  unfold World.freeze
  rw [if_neg (by decide)]
  show ({ w with heap := (w.heap.push (.cells arr e)).modify w.heap.size _ } : World) = { w with heap := w.heap.push (.cells arr e (n, n + 1)) }
  congr 1
  apply Array.ext_getElem?
  intro k
  rw [Array.getElem?_modify, Array.getElem?_push, Array.getElem?_push]
  by_cases hk : w.heap.size = k
  · subst hk; simp
  · rw [if_neg hk, if_neg (fun e => hk e.symm), if_neg (fun e => hk e.symm)]
theorem freeze_heap {p : Nat} {arr : Array Value} {ty : TypeId} {lo hi : Nat} (h : w.heap[p]? = some (.cells arr ty (lo, hi))) (n : Nat) :
    (w.freeze ⟨p, n, none⟩ 1).heap[p]? = some (.cells arr ty (if lo == hi then (n, n + 1) else (min lo n, max hi (n + 1)))) ∧ (∀ k, k ≠ p → (w.freeze ⟨p, n, none⟩ 1).heap[k]? = w.heap[k]?) := by
  unfold World.freeze
  rw [if_neg (by decide)]
  constructor
  · simp only [Array.getElem?_modify, if_true, h, Option.map_some]
  · intro k hk
    simp only [Array.getElem?_modify]
    rw [if_neg (fun e => hk e.symm)]
theorem strBytes_sound (hr : HRel C φ D S nx B w) (hB : B ≤ w.heap.size) {s d : Nat} {x : Operand} {ρ : Operand → Value} {ρ' : Operand → Option AV} {res : ARes} (hρ : Ev φ D ρ ρ' [x]) (h : hStrBytes C s d x S nx ρ' = some res) :
    OneOf C φ D S nx B w (convert s d (ρ x)) res := by
  unfold hStrBytes at h
  split at h
  · rename_i e l hs hd hx
    obtain ⟨ex, g⟩ := hρ x (by simp) _ hx
    split at h
    · rename_i he
      obtain ⟨hle, rfl⟩ := growAt_some h
      rw [ex]
      have hsz : (bytesOf l).size = l.length := by simp [bytesOf, ByteArray.size]
      have hsz2 : (bytesOf l).data.size = l.length := by simp [bytesOf]
      have hc := strCellsA φ l g
      have gcells : goods D (l.map fun n => AV.int .u8 (Int.ofNat n)) := by
        rw [goods_iff]; intro v hv; obtain ⟨y, _, rfl⟩ := List.mem_map.1 hv; trivial
      obtain ⟨cap, hcap, hcd⟩ : ∃ cap, l.length ≤ cap ∧ (choose (.appendCap l.length 0 e)).run C.P w = .ok cap w.drew :=
        ⟨l.length + (w.tape w.drawn (.appendCap l.length 0 e)) % (2 ^ 63 - l.length), by omega, by simp [Question.forced, Question.cut]⟩
      have hsum : (l.map fun n => AV.int .u8 (Int.ofNat n)).length + (Array.replicate (cap - l.length) (Value.int .u8 0)).size = cap * 1 := by simp; omega
      have hcells := grown_cells (C := C) (φ := φ) (w := w) (nx := nx) gcells (not_dom hr) hsum e []
      have hnew : ORel C (upd φ nx ⟨w.heap.size, 0, cap * 1⟩) (add D nx) (.cells (Tr.ofList (l.map fun n => AV.int .u8 (Int.ofNat n)) 0 .nil) (l.map fun n => AV.int .u8 (Int.ofNat n)).length (.grow ⟨[], e⟩)) ⟨w.heap.size, 0, cap * 1⟩
          (w.drew.alloc (.cells ((concs φ (l.map fun n => AV.int .u8 (Int.ofNat n))).toArray ++ Array.replicate (cap - l.length) (Value.int .u8 0)) e (cap, cap + 1))) := by
        obtain ⟨arr, ty, lo, hi, b1, b2, b3, b4⟩ := hcells
        have b1' := heap_new w.drew (.cells ((concs φ (l.map fun n => AV.int .u8 (Int.ofNat n))).toArray ++ Array.replicate (cap - l.length) (Value.int .u8 0)) e)
        have hsz3 : w.drew.heap.size = w.heap.size := rfl
        rw [hsz3] at b1'
        rw [b1'] at b1
        cases b1
        refine ⟨_, e, cap, cap + 1, heap_new w.drew _, ⟨⟨.inr ?_, rfl⟩, b2.2.1, b2.2.2⟩, b3, b4⟩
        simp [concs_len]; omega
      refine ⟨upd φ nx ⟨w.heap.size, 0, cap * 1⟩, add D nx, _, ?_, .inr rfl, hr.drew.alloc hr.n0 (Nat.lt_succ_self _) (Nat.le_succ _) (not_dom hr) hB rfl (by rw [hget_hset _ hr.n0, if_pos rfl]) (fun x hx => .inl (by rw [hget_hset _ hr.n0, if_neg hx])) hnew
        ⟨fun _ _ _ h => (by cases h; simp), fun _ _ _ h => (by cases h; exact ofList_lt)⟩, ext_new hr hB _ (fun x hx _ => by rw [hget_hset _ hr.n0, if_neg hx]), Nat.le_succ _⟩
      have hsize : ((concs φ (l.map fun n => AV.int .u8 (Int.ofNat n))).toArray ++ Array.replicate (cap - l.length) (Value.int .u8 0)).size = cap := by simp [concs_len]; omega
      have hfr := freeze_new w.drew ((concs φ (l.map fun n => AV.int .u8 (Int.ofNat n))).toArray ++ Array.replicate (cap - l.length) (Value.int .u8 0)) e cap
      have hhs : w.drew.heap.size = w.heap.size := rfl
      rw [hhs] at hfr
      have hshape : (w.drew.alloc (.cells ((concs φ (l.map fun n => AV.int .u8 (Int.ofNat n))).toArray ++ Array.replicate (cap - l.length) (Value.int .u8 0)) e)).shape? w.heap.size = some (e, cap) := by
        have := heap_new w.drew (.cells ((concs φ (l.map fun n => AV.int .u8 (Int.ofNat n))).toArray ++ Array.replicate (cap - l.length) (Value.int .u8 0)) e)
        rw [hhs] at this
        simp only [World.shape?, this, hsize]
      simp only [convert, Sem.run_bind, run_underlying hs, run_underlying hd, run_underlying he, Result.andThen_ok, conc, Conv.stringToBytes, hsz, hcd, hc, newRow, run_newObj_alloc, hhs, Sem.run_pure, markStringish, run_shape, hshape, run_freeze, hfr,
        upd_self, Nat.zero_add, Nat.sub_zero, Nat.mul_one, Nat.div_one]
    · simp at h
  · rename_i el e b o len cap hs hd hx
    obtain ⟨ex, g⟩ := hρ x (by simp) _ hx
    split at h
    · rename_i he
      simp only [cnd_none, Bool.and_eq_true] at h
      obtain ⟨⟨hsd, hdyn⟩, h⟩ := h
      have hsd : s = d := Nat.eq_of_beq_eq_true hsd
      subst hsd
      have hb : C.n0 ≤ b := ble_le hdyn
      rw [ex]
      have fin : ∀ (c : Tr AV) (n : Nat) (st : St), hget C S b = some (.cells c n st) → (st = .own ∨ st = .marked) → ∀ S', hget C S' b = some (.cells c n .marked) → (∀ x, x ≠ b → hget C S' x = hget C S x) →
          DoneV C φ D S nx B w (convert s s (conc φ (.slice b o len cap))) (.slice b o len cap) S' nx := by
        intro c n st ho hst S' hS1 hS2
        obtain ⟨arr, ty, lo, hi, a1, a2, a3, a4⟩ := hr.obj b _ ho g
        have hal : Alone (.cells c n st) := by rcases hst with rfl | rfl <;> exact ⟨by simp, by simp⟩
        have hfree : lo = hi ∨ arr.size ≤ lo := by rcases hst with rfl | rfl; exact .inl a2; exact a2
        obtain ⟨f1, f2⟩ := freeze_heap a1 arr.size
        have hbase := hr.base b _ hb ho g
        have hmk : ∃ lo' hi', (if lo == hi then (arr.size, arr.size + 1) else (min lo arr.size, max hi (arr.size + 1))) = (lo', hi') ∧ arr.size ≤ lo' := by
          by_cases q : lo = hi
          · exact ⟨_, _, by rw [if_pos (by simpa using q)], Nat.le_refl _⟩
          · refine ⟨_, _, by rw [if_neg (by simpa using q)], ?_⟩
            have := hfree.resolve_left q
            omega
        obtain ⟨lo', hi', e1, e2⟩ := hmk
        rw [e1] at f1
        refine ⟨φ, D, w.freeze ⟨(φ b).blk, arr.size, none⟩ 1, ?_, g, hr.put hb g ho hS1 (fun x hx => .inl (hS2 x hx)) (fun k hk => f2 k hk) ?_ ⟨arr, ty, lo', hi', f1, .inr e2, a3, a4⟩ ⟨fun _ _ _ h => (by cases h), fun _ _ _ h => (by cases h; exact (hr.olds b _ ho g).2 _ _ _ rfl)⟩, ?_, Nat.le_refl _⟩
        · have hshape : w.shape? (φ b).blk = some (ty, arr.size) := run_shape_cells a1
          have hbeq : (s == s) = true := by simp
          simp only [convert, Sem.run_bind, run_underlying hs, Result.andThen_ok, conc]
          rw [hs] at hd
          cases hd
          simp only [hbeq, run_underlying he, Sem.run_bind, Result.andThen_ok, markStringish, run_shape, hshape, run_freeze, Sem.run_pure]
        · intro x ox hne hx dx heq
          rw [hS2 x hne] at hx
          exact hr.alone hb g ho hal x ox hne hx dx heq
        · refine ⟨fun _ _ => rfl, fun _ h => h, fun _ h => .inl h, fun x hx _ => hS2 x (fun e => hx (by rw [e]; exact g)), ?_⟩
          refine ⟨?_, ?_, ?_, ?_, fun k hk => f2 k (by omega)⟩ <;> simp [World.freeze]
      split at h
      · rename_i c n ho
        simp only [forceTr_eq, Option.some.injEq] at h
        subst h
        exact fin c n .own ho (.inl rfl) _ (by rw [hget_hset _ hb, if_pos rfl]) (fun x hx => by rw [hget_hset _ hb, if_neg hx])
      · rename_i c n ho
        simp only [Option.some.injEq] at h
        subst h
        exact fin c n .marked ho (.inr rfl) S ho (fun _ _ => rfl)
      · simp at h
    · simp at h
  · simp at h

/-- the bytes' row, behind a block that all its numbers hold as elder versions, may be frozen -/
theorem HRel.frozen (hr : HRel C φ D S nx B w) {blk : Nat} (h : ∀ x ox, hget C S x = some ox → D x → (φ x).blk = blk → ∃ c n, ox = .cells c n .stale) (o m : Nat) : HRel C φ D S nx B (w.freeze ⟨blk, o, none⟩ m) := by
  by_cases hm : m = 0
  · subst hm; exact hr
  have hoth : ∀ k, k ≠ blk → (w.freeze ⟨blk, o, none⟩ m).heap[k]? = w.heap[k]? := by
    intro k hk
    unfold World.freeze
    rw [if_neg hm]
    simp only [Array.getElem?_modify]
    rw [if_neg (fun e => hk e.symm)]
  refine ⟨hr.n0, hr.lt, hr.olt, fun x ox hx dx => ?_, hr.sep, hr.base, hr.olds⟩
  by_cases e : (φ x).blk = blk
  · obtain ⟨c, n, rfl⟩ := h x ox hx dx e
    obtain ⟨arr, ty, lo, hi, a1, a2, a3, a4⟩ := hr.obj x _ hx dx
    have hf : ∃ lo' hi', (w.freeze ⟨blk, o, none⟩ m).heap[(φ x).blk]? = some (.cells arr ty (lo', hi')) := by
      unfold World.freeze
      rw [if_neg hm]
      simp only [Array.getElem?_modify]
      rw [if_pos e.symm, a1]
      simp only [Option.map_some]
      split <;> exact ⟨_, _, rfl⟩
    obtain ⟨lo', hi', f1⟩ := hf
    exact ⟨arr, ty, lo', hi', f1, a2, a3, a4⟩
  · exact (hr.obj x ox hx dx).keep (fun _ _ => rfl) (fun _ h => h) (hoth _ e)
theorem sliceData_sound (hr : HRel C φ D S nx B w) {ats : Array TypeId} {ty : TypeId} {x : AV} {res : ARes} (g : good D x) (h : aSliceData C S x = some res) :
    OneOf C φ D S nx B w (Builtin.unsafeSliceData_ ats ty #[conc φ x]) res := by
  unfold aSliceData at h
  split at h
  · simp only [Option.some.injEq] at h; subst h
    exact DoneV.same hr rfl trivial
  · rename_i b o len cap
    simp only [cnd_none, Option.some.injEq] at h
    obtain ⟨h1, rfl⟩ := h
    have h1 := blt_lt h1
    exact DoneV.same hr (Lib.run_unsafeSliceData_row w ats ty _ len cap (by omega)) g
  · rename_i b o len sz
    split at h
    · rename_i n hn
      simp only [cnd_none, Bool.and_eq_true, Option.some.injEq] at h
      obtain ⟨⟨h1, h2⟩, rfl⟩ := h
      have h1 := blt_lt h1
      have h2 := ble_le h2
      have hroom := sizeAt_of hr g hn
      refine DoneV.same hr (Lib.run_unsafeSliceData_row w ats ty _ len _ ?_) g
      have : 1 ≤ ((φ b).room - o) / sz := by
        rw [Nat.le_div_iff_mul_le h1]; omega
      omega
    · simp at h
  · simp at h
theorem bytesCells : ∀ {l : List AV} {s : List Nat}, bytesOfCells l = some s → s.length = l.length ∧ (∀ x ∈ s, x < 256) := by
  intro l
  induction l with
  | nil => intro s h; simp [bytesOfCells] at h; subst h; simp
  | cons a l ih =>
    intro s h
    unfold bytesOfCells at h
    split at h
    · rename_i e; cases e
    · rename_i n l' e
      cases e
      split at h
      · rename_i r hr
        simp at h; subst h
        obtain ⟨h1, h2⟩ := ih hr
        refine ⟨by simp [h1], ?_⟩
        intro x hx
        rcases List.mem_cons.1 hx with rfl | hx
        · exact Nat.mod_lt _ (by decide)
        · exact h2 x hx
      · simp at h
    · simp at h
theorem loadBytes_of {P : Program} {w : World} : ∀ {l : List AV} {s : List Nat} {b p : Nat} (acc : ByteArray), bytesOfCells l = some s → (∀ j v, l[j]? = some v → w.cell? ⟨b, p + j, none⟩ = some (conc φ v)) →
    (loadBytes ⟨b, p, none⟩ acc l.length).run P w = .ok ⟨acc.data ++ (bytesOf s).data⟩ w := by
  intro l
  induction l with
  | nil => intro s b p acc h _; simp [bytesOfCells] at h; subst h; simp [loadBytes, bytesOf]
  | cons a l ih =>
    intro s b p acc h hc
    unfold bytesOfCells at h
    split at h
    · rename_i e; cases e
    · rename_i n l' e
      cases e
      split at h
      · rename_i r hr
        simp at h; subst h
        have h0 := hc 0 (.int .u8 (.ofNat n)) rfl
        simp only [Nat.add_zero, conc] at h0
        have := ih (b := b) (p := p + 1) (acc.push (UInt8.ofNat n)) hr (fun j v hj => by
          have := hc (j + 1) v (by simpa using hj)
          rw [show p + 1 + j = p + (j + 1) by omega]; exact this)
        have hb : ((Int.ofNat n).toNat).toUInt8 = UInt8.ofNat n := rfl
        have e2 : (⟨b, p, none⟩ : Addr).add 1 = ⟨b, p + 1, none⟩ := add_at b p 1
        simp only [List.length_cons, loadBytes, Sem.run_bind, run_load, h0, Result.andThen, hb, e2]
        rw [this]
        congr 1
        apply ByteArray.ext
        have e3 : UInt8.ofNat n = UInt8.ofNat (n % 256) := by
          apply UInt8.toNat_inj.1; simp
        simp [ByteArray.push, bytesOf, e3]
      · simp at h
    · simp at h
theorem unsafeString_some (pt it ty : TypeId) (a : Addr) (v : Value) : Builtin.unsafeString_ #[pt, it] ty #[.pointer (some a), v] =
    (do
      let n ← asInt v
      if n < 0 then runtimePanic (.error "unsafe.String: len out of range")
      if n > IntKind.i64.max then unsupported (.unsafePointer "String: a length above the largest int")
      if n = 0 then pure (.string .empty)
      else if ← variablesAt a (← elemOf pt) n.toNat then do
        let s ← loadBytes a .empty n.toNat
        freeze a n.toNat
        pure (.string s)
      else unsupported (.unsafePointer "String: not so many bytes at ptr")) := rfl
theorem unsafeString_none (pt it ty : TypeId) (v : Value) : Builtin.unsafeString_ #[pt, it] ty #[.pointer none, v] =
    (do
      let n ← asInt v
      if n < 0 then runtimePanic (.error "unsafe.String: len out of range")
      if n > IntKind.i64.max then unsupported (.unsafePointer "String: a length above the largest int")
      if n = 0 then pure (.string .empty)
      else runtimePanic (.error "unsafe.String: ptr is nil and len is not zero")) := rfl
theorem unsafeStr_sound (hr : HRel C φ D S nx B w) {ty pt it : TypeId} {p k : AV} {res : ARes} (g : good D p) (h : aUnsafeStr C S nx pt p k = some res) :
    OneOf C φ D S nx B w (Builtin.unsafeString_ #[pt, it] ty #[conc φ p, conc φ k]) res := by
  have hmax : IntKind.i64.max = 9223372036854775807 := rfl
  unfold aUnsafeStr at h
  split at h
  · rename_i m
    simp only [cnd_none, Option.some.injEq] at h
    obtain ⟨h1, rfl⟩ := h
    have h1 := Nat.eq_of_beq_eq_true h1
    subst h1
    refine DoneV.same hr ?_ (by simp [good])
    simp only [conc]
    rw [unsafeString_none]
    simp [asInt, asIntOf, hmax]
    rfl
  · rename_i b o m
    have gb : D b := g
    split at h
    · rename_i e c n gr hp ho
      split at h
      · rename_i z l hz hl
        split at h
        · rename_i s hs
          simp only [cnd_none, Bool.and_eq_true, forceTr_eq, Option.some.injEq] at h
          obtain ⟨⟨⟨⟨hd, ht⟩, hz1⟩, ⟨hm, hle⟩, hbig⟩, rfl⟩ := h
          have hb : C.n0 ≤ b := ble_le hd
          have ht := Nat.eq_of_beq_eq_true ht
          have hz1 := Nat.eq_of_beq_eq_true hz1
          have hm := blt_lt hm
          have hle := ble_le hle
          have hbig := ble_le hbig
          obtain ⟨arr, ty0, lo, hi, a1, ⟨⟨a20, a21⟩, a22, a23⟩, a3, a4⟩ := hr.obj b _ ho gb
          have hty : ty0 = e := a21.trans ht
          subst hty
          obtain ⟨l1, l2⟩ := Tr.getN_spec _ _ _ _ hl
          obtain ⟨s1, s2⟩ := bytesCells hs
          have hret := hr.retire hb gb ho
          have hself : hget C (hset C S b (some (.cells c n .stale))) b = some (.cells c n .stale) := by rw [hget_hset _ hb, if_pos rfl]
          have helse : ∀ x, x ≠ b → hget C (hset C S b (some (.cells c n .stale))) x = hget C S x := fun x hx => by rw [hget_hset _ hb, if_neg hx]
          have hfz := hret.frozen (blk := (φ b).blk) (fun x ox hx dx hq => by
            by_cases q : x = b
            · subst q; rw [hself] at hx; cases hx; exact ⟨_, _, rfl⟩
            · rw [helse x q] at hx
              rcases (hr.sep b x _ ox ho hx gb dx (fun e => q e.symm) hb hq.symm).1 with ⟨_, _, _, _, q, _⟩ | ⟨_, _, _, c', n', q, rfl, _⟩ | ⟨_, _, _, _, _, _, q, _⟩
              · cases q
              · exact ⟨_, _, rfl⟩
              · cases q) ((φ b).sh + o) m
          have hc : C.P.cellsOf ty0 = 1 := by
            obtain ⟨j, hj, hjz⟩ := szOf_some hz
            simp [Program.cellsOf, hj, hjz, hz1]
          have hshape : w.shape? (φ b).blk = some (ty0, arr.size) := by simp [World.shape?, a1]
          have hlies : liesAt C.P C.P.depth ty0 (arr.size / C.P.cellsOf ty0) ((φ b).sh + o) ty0 m = true :=
            lies_row hc (by decide) (Nat.mod_one _) (by rw [hc]; simp only [Nat.div_one]; omega)
          have hlb := loadBytes_of (P := C.P) (w := w) (φ := φ) (b := (φ b).blk) (p := (φ b).sh + o) .empty hs (fun j v hj => by
            have hj' : j < m := by have := (List.getElem?_eq_some_iff.1 hj).1; omega
            have h5 := a4 (o + j) v (by rw [l2 j hj', hj])
            simp only [World.cell?, a1]
            rw [show (φ b).sh + o + j = (φ b).sh + (o + j) by omega]
            exact h5.1)
          rw [l1] at hlb
          refine ⟨φ, D, _, ?_, by simpa [good] using s2, hfz, ⟨fun _ _ => rfl, fun _ h => h, fun _ h => .inl h, fun x hx _ => helse x (fun e => hx (e ▸ gb)), Lib.below_freeze (Go.RowKit.Below.refl _ _) (hr.base b _ hb ho gb) m⟩, Nat.le_refl _⟩
          have hneg : ¬ ((m : Int) < 0) := by omega
          have h63 : ¬ ((9223372036854775807 : Int) < (m : Int)) := by omega
          have hm0 : m ≠ 0 := by omega
          have hlies' := hlies
          rw [hc, Nat.div_one] at hlies'
          have hfin : (⟨ByteArray.empty.data ++ (bytesOf s).data⟩ : ByteArray) = bytesOf s := by
            apply ByteArray.ext
            have : ByteArray.empty.data = #[] := rfl
            rw [this]; simp
          rw [hfin] at hlb
          simp only [conc]
          rw [unsafeString_some]
          simp [asInt, asIntOf, hmax, hneg, h63, hm0, variablesAt, hshape, elemOf, run_underlying hp, hlies, hlies', hc, hlb]
        · simp at h
      · simp at h
    · simp at h
  · simp at h
end
end Go.AE

namespace Go.AE
open Go.RowKit (Below)
/-- what an operation comes to -/
def HAns (C : Cfg) (φ : Phi) (D : Nat → Prop) (S : Tr AObj) (nx B : Nat) (w : World) (s : Sem Next) (res : ARes) : Prop := match res with
  | .val v => Done C φ D S nx B w s v S nx
  | .vals v S' nx' => Done C φ D S nx B w s v S' nx'
  | .fork l => ∃ v S', (v, S') ∈ l ∧ Done C φ D S nx B w s v S' nx
  | .enter f args => s.run C.P w = .ok (.enter f (concs φ args).toArray) w ∧ goods D args
  | .known f args v => C.orc f args = some v ∧ s.run C.P w = (callFunc f (concs φ args).toArray).run C.P w ∧ goods D args
  | .round l args => s.run C.P w = (Instr.yield (φ l).blk (concs φ args).toArray).run C.P w ∧ goods D args ∧ D l
  | .defer d => s.run C.P w = .ok (.defer (cDef φ d)) w ∧ goodDef D d
  | .recover => s.run C.P w = .ok .recover w
  | .panic v => s.run C.P w = .halt (.panic (conc φ v)) w ∧ good D v
section
variable {C : Cfg} {φ φ' : Phi} {D D' : Nat → Prop} {S S' : Tr AObj} {nx nx' B : Nat} {w w' : World}

theorem HAns.one {s : Sem Value} {res : ARes} (h : OneOf C φ D S nx B w s res) : HAns C φ D S nx B w (do pure (.value (← s))) res := by
  cases res with
  | val v => exact DoneV.done h
  | vals v S' nx' => exact DoneV.done h
  | fork l => obtain ⟨v, S', h1, h2⟩ := h; exact ⟨v, S', h1, h2.done⟩
  | _ => exact h.elim
theorem HAns.vals {s : Sem Value} {res : ARes} (h : ∃ v S' nx', res = .vals v S' nx' ∧ DoneV C φ D S nx B w s v S' nx') : HAns C φ D S nx B w (do pure (.value (← s))) res := by
  obtain ⟨v, S', nx', rfl, h⟩ := h
  exact h.done
theorem HAns.app (hr : HRel C φ D S nx B w) {s : Sem Value} {res : ARes} (h : AppAns C φ D S nx B w s res) : HAns C φ D S nx B w (do pure (.value (← s))) res := by
  rcases h with ⟨v, S', nx', rfl, φ', D', w', h1, h2, h3, h4, h5⟩ | ⟨v, rfl, h1, h2⟩
  · exact DoneV.done ⟨φ', D', w', h1, h2, h3, h4, h5⟩
  · exact DoneV.done (.same hr h2 h1)
theorem HAns.unit {s : Sem Unit} {res : ARes} (h : ∃ S' w', res = .vals undef S' nx ∧ s.run C.P w = .ok () w' ∧ HRel C φ D S' nx B w' ∧ Ext C nx φ D S B w φ D S' w') :
    HAns C φ D S nx B w (do s; pure .skip) res := by
  obtain ⟨S', w', rfl, h1, h2, h3⟩ := h
  exact ⟨φ, D, w', .skip, by simp [h1], .inr ⟨rfl, rfl⟩, by trivial, h2, h3, Nat.le_refl _⟩
theorem HAns.congr {s s' : Sem Next} {res : ARes} (h : s.run C.P w = s'.run C.P w) (k : HAns C φ D S nx B w s' res) : HAns C φ D S nx B w s res := by
  cases res <;> simp only [HAns, Done] at k ⊢ <;> rw [h] <;> exact k

theorem callFunc_sound (pf : PF C.P) {f : Nat} {args : List AV} {res : ARes} (g : goods D args) (h : aCallFunc C f args = some res) : HAns C φ D S nx B w (callFunc f (concs φ args).toArray) res := by
  unfold aCallFunc at h
  split at h
  · rename_i v hv
    simp at h; subst h
    exact ⟨hv, rfl, g⟩
  · split at h
    · rename_i fn hf
      split at h
      · rename_i c hb
        simp at h; subst h
        refine ⟨?_, g⟩
        have hn : fn.name ≠ "runtime.NumGoroutine" := by simpa using pf.num f fn hf (by simp [hb])
        simp [callFunc, hf, hn, hb]
      · simp at h
    · simp at h
theorem invoke_sound (pf : PF C.P) {fn : Fn} {captured args : List AV} {res : ARes} (gf : goodFn D fn) (gc : goods D captured) (ga : goods D args) (h : aInvoke C fn captured args = some res) :
    HAns C φ D S nx B w (invoke (.fn (cFn φ fn) (concs φ captured).toArray) (concs φ args).toArray) res := by
  unfold aInvoke at h
  split at h
  · rename_i f
    have e : invoke (.fn (cFn φ (.func f)) (concs φ captured).toArray) (concs φ args).toArray = callFunc f (concs φ (args ++ captured)).toArray := by
      simp [invoke, cFn, concs_app]
    rw [e]
    exact callFunc_sound pf (goods_app ga gc) h
  · rename_i l
    simp at h; subst h
    exact ⟨rfl, ga, gf⟩
  · simp at h
theorem method_sound (hr : HRel C φ D S nx B w) (pf : PF C.P) {t : Nat} {v : AV} {name : String} {args : List AV} {res : ARes} (gv : good D v) (ga : goods D args) (h : aMethod C S t v name args = some res) :
    HAns C φ D S nx B w (callMethod (.iface t (conc φ v)) name (concs φ args).toArray) res := by
  obtain ⟨k, hk⟩ : ∃ k, C.P.types.size + Made.depth = k + 1 := ⟨C.P.types.size + 99, rfl⟩
  have go : ∀ (f : Nat) (x : AV), good D x → (method (k + 1) t (conc φ v) name).run C.P w = .ok (f, conc φ x) w → aCallFunc C f (x :: args) = some res → HAns C φ D S nx B w (callMethod (.iface t (conc φ v)) name (concs φ args).toArray) res := by
    intro f x gx hm hc
    refine (callFunc_sound (φ := φ) (S := S) (nx := nx) (B := B) (w := w) pf (args := x :: args) (show good D x ∧ goods D args from ⟨gx, ga⟩) hc).congr ?_
    simp [callMethod, hk, hm, concs]
  unfold aMethod at h
  split at h
  · rename_i i hi
    split at h
    · rename_i m hm
      simp only [cnd_none] at h
      obtain ⟨hp, h⟩ := h
      have hp' : m.path.toList = [] := by simpa using hp
      split at h
      · rename_i f e hf hu
        refine go f v gv ?_ h
        simp [method, typeInfo, hi, hm, hp', follow, hf, receiverAt, run_underlying hu, Place.get]
      · rename_i f e hf hu
        split at h
        · rename_i x hx
          obtain ⟨h1, h2⟩ := aLoad_sound hr gv hx
          refine go f x h2 ?_ h
          cases v with
          | ptr b o =>
            simp only [Instr.loadAt, Instr.sureAddr, conc, Sem.run_bind, Sem.run_pure, Result.andThen_ok] at h1
            have hssa : ∀ (xt : TypeId) (a : Addr) (nm : String), Builtin.ssaWrapNilChk_ #[xt] xt #[.pointer (some a), strVal "", strVal nm] = pure (.pointer (some a)) := fun _ _ _ => rfl
            have hpe : m.path = #[] := by simpa using hp
            simp [method, typeInfo, hi, hm, hpe, follow, hf, receiverAt, run_underlying hu, Place.get, conc, hssa, asAddr, h1]
          | _ => simp [aLoad, aLdN, aLd1] at hx; split at hx <;> simp at hx
        · simp at h
      · rename_i f d hn hf hu
        refine go f v gv ?_ h
        cases d <;> first
          | exact (hn _ rfl).elim
          | simp [method, typeInfo, hi, hm, hp', follow, hf, receiverAt, run_underlying hu, Place.get]
      · simp at h
    · simp at h
  · simp at h
theorem builtin_sound (hr : HRel C φ D S nx B w) (hB : B ≤ w.heap.size) (pf : PF C.P) {b : Builtin} {args : Array Operand} {ats : Array TypeId} {ty : TypeId} {consts : Array Bool} {ρ : Operand → Value} {ρ' : Operand → Option AV} {res : ARes}
    (hρ : Ev φ D ρ ρ' args.toList) (h : hBuiltin C b args ats S nx ρ' = some res) : HAns C φ D S nx B w (builtin b ats ty consts (args.map ρ)) res := by
  have at0 : ∀ {t : Nat} {rest : List Nat}, ats.toList = t :: rest → ats[0]? = some t := fun ha => by rw [← Array.getElem?_toList, ha]; rfl
  have at1 : ∀ {t u : Nat} {rest : List Nat}, ats.toList = t :: u :: rest → ats[1]? = some u := fun ha => by rw [← Array.getElem?_toList, ha]; rfl
  unfold hBuiltin at h
  split at h
  · rename_i s x hx
    obtain ⟨a1, a2⟩ := args_of hρ hx
    rw [a1]
    split at h
    · rename_i st xt rest ha
      split at h
      · rename_i q hxt
        split at h
        · rename_i n hn
          exact HAns.app hr (aGrow_sound (ty := ty) hr hB (at0 ha) (at1 ha) hxt a2.1 hn h)
        · simp at h
      · rename_i e hxt
        exact HAns.app hr (aAppend_sound (ty := ty) hr hB (at0 ha) (at1 ha) hxt (.inr ⟨e, rfl⟩) a2.1 a2.2.1 h)
      · rename_i hxt
        exact HAns.app hr (aAppend_sound (ty := ty) hr hB (at0 ha) (at1 ha) hxt (.inl rfl) a2.1 a2.2.1 h)
      · simp at h
    · simp at h
  · rename_i d x hx
    obtain ⟨a1, a2⟩ := args_of hρ hx
    rw [a1]
    split at h
    · rename_i st rest ha
      exact HAns.one (copy_sound (ty := ty) hr (at0 ha) a2.1 a2.2.1 h)
    · simp at h
  · rename_i hx
    simp at h; subst h
    exact rfl
  · rename_i x hx
    obtain ⟨a1, a2⟩ := args_of hρ hx
    rw [a1]
    exact HAns.one (sliceData_sound (ats := ats) (ty := ty) hr a2.1 h)
  · rename_i p k hx
    obtain ⟨a1, a2⟩ := args_of hρ hx
    rw [a1]
    split at h
    · rename_i pt it l ha
      split at h
      · have e : ats = #[pt, it] := by apply Array.ext'; exact ha
        rw [e]
        exact HAns.one (unsafeStr_sound (ty := ty) hr a2.1 h)
      · simp at h
    · simp at h
  · rename_i x hx
    obtain ⟨a1, a2⟩ := args_of hρ hx
    rw [a1]
    split at h
    · rename_i t rest ha
      exact HAns.one (clear_sound (ty := ty) hr (at0 ha) a2.1 h)
    · simp at h
  · rename_i m k hx
    obtain ⟨a1, a2⟩ := args_of hρ hx
    rw [a1]
    split at h
    · rename_i t rest ha
      obtain ⟨v, S', rfl, hd⟩ := delete_sound (ty := ty) hr (at0 ha) a2.1 a2.2.1 h
      exact DoneV.done hd
    · simp at h
  · simp at h
set_option maxHeartbeats 1000000 in
theorem aHeavy_sound (hr : HRel C φ D S nx B w) (hB : B ≤ w.heap.size) (pf : PF C.P) {oper : Oper} {ρ : Operand → Value} {ρ' : Operand → Option AV} {res : ARes} (hρ : Ev φ D ρ ρ' oper.op.operands.toList)
    (h : aHeavy oper.op C S nx ρ' = some res) : HAns C φ D S nx B w (execOp ρ oper) res := by
  obtain ⟨dst, op, type, pos, after, guard⟩ := oper
  have mset : ∀ t m k x, Ev φ D ρ ρ' [m, k, x] → hMapSet C t m k x S nx ρ' = some res → HAns C φ D S nx B w (do Instr.mapUpdate t (ρ m) (ρ k) (ρ x); pure .skip) res := by
    intro t m k x hρ h
    unfold hMapSet at h
    split at h
    · rename_i a b c ha hb hc
      obtain ⟨e1, g1⟩ := hρ m (by simp) a ha
      obtain ⟨e2, g2⟩ := hρ k (by simp) b hb
      obtain ⟨e3, g3⟩ := hρ x (by simp) c hc
      obtain ⟨S', w', h1, h2, h3, h4⟩ := aMapSet_sound hr g1 g2 g3 h
      rw [e1, e2, e3]
      exact HAns.unit ⟨S', w', h1, h2, h3, h4⟩
    · simp at h
  cases op <;> simp only [aHeavy] at h <;> (try (cases h; done)) <;> simp only [execOp] <;> simp only [Op.operands] at hρ
  case mapUpdate t m k x => exact mset t m k x (by simpa using hρ) h
  case insert t m k x => exact mset t m k x (by simpa using hρ) h
  case mapEntry t m k =>
    obtain ⟨v, S', h1, h2⟩ := mapEntry_sound hr (by simpa using hρ) h
    exact HAns.vals ⟨v, S', nx, h1, h2⟩
  case entryStore t m s x => exact HAns.unit (entryStore_sound hr (by simpa using hρ) h)
  case makeSlice t l c => exact HAns.vals (makeSlice_sound hr hB (by simpa using hρ) h)
  case makeMap t r =>
    cases r with
    | none => simp at h
    | some r => exact HAns.vals (makeMap_sound hr hB (by simpa using hρ) h)
  case convert s d x => exact HAns.one (strBytes_sound hr hB (by simpa using hρ) h)
  case range t x => exact HAns.vals (range_sound hr hB (by simpa using hρ) h)
  case next it s => exact HAns.one (next_sound hr (by simpa using hρ) h)
  case panic x =>
    unfold hPanic at h
    split at h
    · rename_i t v hx
      simp at h; subst h
      obtain ⟨e, g⟩ := hρ x (by simp) _ hx
      refine ⟨?_, g⟩
      simp [Instr.panic, e, conc]
    · simp at h
  case defer c =>
    unfold hDefer at h
    split at h
    · rename_i f args ats
      split at h
      · rename_i fn first captured as hf has
        simp at h; subst h
        simp only [Call.operands] at hρ
        obtain ⟨e, g⟩ := hρ f (by simp) _ hf
        obtain ⟨a1, a2⟩ := args_of (hρ.mono (by simp; intro x hx; exact .inr hx)) has
        refine ⟨?_, ⟨g.1, g.2.2⟩, goods_app g.2.1 a2⟩
        simp [resolve, e, conc, Deferred.ofValue, a1, cDef, cTarget, concs_app]
      · simp at h
    · simp at h
  case call c =>
    unfold hCall at h
    split at h
    · rename_i f args ats
      split at h
      · rename_i fn first captured as hf has
        simp only [Call.operands] at hρ
        obtain ⟨e, g⟩ := hρ f (by simp) _ hf
        obtain ⟨a1, a2⟩ := args_of (hρ.mono (by simp; intro x hx; exact .inr hx)) has
        refine (invoke_sound (φ := φ) (S := S) (nx := nx) (B := B) (w := w) pf g.1 g.2.2 (goods_app g.2.1 a2) h).congr ?_
        simp [resolve, e, conc, Deferred.ofValue, a1, concs_app]
      · simp at h
    · rename_i b args ats
      simp only [Call.operands] at hρ
      show HAns C φ D S nx B w (builtin b ats type _ (args.map ρ)) res
      exact builtin_sound hr hB pf (hρ.mono (by simp)) h
    · rename_i r name args ats
      split at h
      · rename_i t v as hrc has
        simp only [Call.operands] at hρ
        obtain ⟨e, g⟩ := hρ r (by simp) _ hrc
        obtain ⟨a1, a2⟩ := args_of (hρ.mono (by simp; intro x hx; exact .inr hx)) has
        refine (method_sound (v := v) hr pf g a2 h).congr ?_
        simp [resolve, e, conc, invoke, a1]
      · simp at h
end
end Go.AE
