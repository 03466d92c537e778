/- What made answers, and how the clocks are brought to what may be; condition: how the argument reads. -/
import Derived.Test.YtkmmngiodbbjcaaOrdOf
/-! ## The walk of made -/
namespace Go.Proofs.Ytkmmngiodbbjcaa
open Go.AE
noncomputable section
/-- an element of the law's first argument -/
structure A4 where
  kind : Int
  on : Int
  no : Bool
  bo : Bool
def arow (a : A4) : List AV := [.int .i64 a.kind, .int .i64 a.on, .bool a.no, .bool a.bo]
structure RdW (C : Cfg) (S : Tr AObj) (lim b o : Nat) (lv : AV) (l : List A4) : Prop where
  hb : l ≠ [] → b < lim
  len : ∀ S', builtV C S' .len [22] [lv] = some (.int .i64 (l.length : Int))
  ix : ∀ (i : Nat), i < l.length → ixSV 4 lv (.int .i64 (i : Int)) = some (.ptr b (o + i * 4))
  cell : ∀ (i : Nat) a (j : Nat) v, l[i]? = some a → (arow a)[j]? = some v → aLd1 C S (.ptr b (o + i * 4 + j)) = some v
theorem RdW.ext {C : Cfg} {S S' : Tr AObj} {lim b o nx' : Nat} {lv : AV} {l : List A4} (h : RdW C S lim b o lv l) (k : Exts C S lim S' nx') : RdW C S' lim b o lv l :=
  ⟨h.hb, h.len, h.ix, fun i a j v hi hj => by rw [k.ld1 _ _ (h.hb (fun e => by rw [e] at hi; cases hi))]; exact h.cell i a j v hi hj⟩
def szs : Nat → Nat
  | 0 => 7
  | 2 => 5
  | 3 => 3
  | _ => 1
/-- a program that is under way: its block, four slices that have grown -/
structure Mk (G : Tr AObj) (n0 : Nat) (S : Tr AObj) (c : Nat) (rows : Nat → List (List AV)) (S' : Tr AObj) (n : Nat) : Prop where
  ex : ∃ (s : Nat → AV) (bl : Nat → List Nat) (cc : Tr AV), hget (cf G n0) S' c = some (.cells cc 4 .own) ∧ ∀ d, d < 4 → cc.get d = some (s d) ∧ Sl (cf G n0) S' (s d) (szs d) (rows d).flatten (bl d) ∧ (∀ y ∈ bl d, c < y ∧ y < n) ∧ ∀ d', d' < 4 → d' ≠ d → ∀ y ∈ bl d, y ∉ bl d'
  ext : Exts (cf G n0) S c S' n
  lt : c < n
def upd (rows : Nat → List (List AV)) (d : Nat) (m : List AV) : Nat → List (List AV) := fun d' => if d' = d then rows d ++ [m] else rows d'
section
variable {G : Tr AObj} {n0 : Nat} {S S' S1 : Tr AObj} {nx n n1 c d st bx : Nat} {rows : Nat → List (List AV)} {m : List AV}
theorem Mk.keep (h : Mk G n0 S c rows S' n) (hE : Exts (cf G n0) S' n S1 n1) : Mk G n0 S c rows S1 n1 := by
  obtain ⟨s, bl, cc, h1, h2⟩ := h.ex
  have hle := hE.le
  have hlt := h.lt
  refine ⟨⟨s, bl, cc, by rw [hE.keep c h.lt]; exact h1, fun d hd => ?_⟩, h.ext.trans hE, by omega⟩
  obtain ⟨k1, k2, k3, k4⟩ := h2 d hd
  exact ⟨k1, k2.keep fun y hy => hE.keep y (k3 y hy).2, fun y hy => ⟨(k3 y hy).1, by have := (k3 y hy).2; omega⟩, k4⟩
theorem Mk.push (h : Mk G n0 S c rows S1 n1) (hc : (cf G n0).n0 ≤ c) (hd : d < 4) (hst : st = 26 ∨ st = 28 ∨ st = 29 ∨ st = 50 ∨ st = 53 ∨ st = 66) (he : elemOkB (cf G n0) st (szs d) = true)
    (hb : (rows d).flatten.length + m.length ≤ 1048576) (hm : m.length = szs d) (h1 : ones m = true) :
    ∃ s, aLd1 (cf G n0) S1 (.ptr c d) = some s ∧ ∀ (S2 : Tr AObj) (n2 bx : Nat) (κ : VK), Exts (cf G n0) S1 n1 S2 n2 → n1 ≤ bx → bx < n2 → hget (cf G n0) S2 bx = some (.cells (Tr.ofList m 0 .nil) (szs d) .own) →
      (∀ s' S3 S4, stV (cf G n0) S3 1 (.ptr c d) s' = some S4 → Mk G n0 S c (upd rows d m) S4 (n2 + 1) → κ s' S3 (n2 + 1)) → resP (hbuiltV (cf G n0) S2 n2 .append [st, st] [s, .slice bx 0 1 1]) S2 n2 κ := by
  obtain ⟨s, bl, cc, g1, g2⟩ := h.ex
  have hlt := h.lt
  obtain ⟨k1, k2, k3, k4⟩ := g2 d hd
  refine ⟨s d, ld1_of g1 k1, fun S2 n2 bx κ hE2 hb1 hb2 hx hκ => ?_⟩
  have hle := hE2.le
  have hM2 := h.keep hE2
  refine push_step (nx := c) (S0 := S) hst he (k2.keep fun y hy => hE2.keep y (k3 y hy).2) (fun y hy => rfl) hx hm h1 hb (by omega) (fun y hy => by have := k3 y hy; omega) hM2.ext ?_
  intro s' S3 hs' hE3 hk
  have h1s : ones [s'] = true ∧ AV.cells s' = [s'] := by
    rcases hs' with ⟨h, _⟩ | ⟨_, _, _, _, h, _⟩ <;> subst h <;> exact ⟨rfl, rfl⟩
  have hcb : c ∉ bl d := fun e => by have := k3 c e; omega
  have hc3 : hget (cf G n0) S3 c = some (.cells cc 4 .own) := by rw [hk c (by omega) hcb, hE2.keep c h.lt]; exact g1
  refine hκ s' S3 _ (st_all hc3 hc (by rw [h1s.2]; rfl) (by decide) (by omega) (by rw [h1s.2]; exact h1s.1)) ?_
  rw [h1s.2]
  refine ⟨⟨fun d' => if d' = d then s' else s d', fun d' => if d' = d then n2 :: bl d else bl d', _, hget_new hc, fun d' hd' => ?_⟩, ?_, by omega⟩
  · obtain ⟨q1, q2, q3, q4⟩ := g2 d' hd'
    have hnc : ∀ y, y ≠ c → hget (cf G n0) (hset (cf G n0) S3 c (some (.cells (writeN cc d [s']) 4 .own))) y = hget (cf G n0) S3 y := fun y hy => hget_old hc hy
    by_cases e : d' = d
    · subst e
      simp only [↓reduceIte, upd]
      refine ⟨by rw [writeN_get, if_pos ⟨Nat.le_refl _, by simp⟩]; simp, ?_, ?_, ?_⟩
      · rw [List.flatten_append]
        simp only [List.flatten_cons, List.flatten_nil, List.append_nil]
        exact hs'.keep fun y hy => hnc y (fun e => by rcases List.mem_cons.1 hy with h | h; (· omega); (· exact hcb (e ▸ h)))
      · intro y hy
        rcases List.mem_cons.1 hy with rfl | hy
        · omega
        · have := k3 y hy; omega
      · intro d2 hd2 hne y hy
        rw [if_neg hne]
        rcases List.mem_cons.1 hy with rfl | hy
        · intro hc'; have := (g2 d2 hd2).2.2.1 _ hc'; omega
        · exact q4 d2 hd2 hne y hy
    · simp only [if_neg e, upd]
      refine ⟨by rw [writeN_get, if_neg (by simp; omega)]; exact q1, ?_, fun y hy => ⟨(q3 y hy).1, by have := (q3 y hy).2; omega⟩, ?_⟩
      · refine q2.keep fun y hy => ?_
        have := q3 y hy
        rw [hnc y (by omega), hk y (by omega) (q4 d hd (fun h => e h.symm) y hy), hE2.keep y (q3 y hy).2]
      · intro d2 hd2 hne y hy
        by_cases e2 : d2 = d
        · subst e2
          rw [if_pos rfl]
          have := q3 y hy
          simp only [List.mem_cons, not_or]
          exact ⟨by omega, q4 d2 hd2 hne y hy⟩
        · rw [if_neg e2]; exact q4 d2 hd2 hne y hy
  · exact hE3.hset hc (Nat.le_refl _) (by omega)
def vraw (x : Bool × W) : List AV := [.str [], .bool x.1, .bool false, .int .i64 (if x.1 then 1 else 3), .int .i64 x.2.on, .bool x.2.no, .int .i64 0]
/-- a program that is made -/
def Made (G : Tr AObj) (n0 : Nat) (S : Tr AObj) (c i : Nat) (S' : Tr AObj) (n : Nat) : Prop := ∃ (rows : Nat → List (List AV)) (vr : List (Bool × W)) (ms fs : List W), Mk G n0 S c rows S' n ∧ rows 0 = vr.map vraw ∧ rows 2 = ms.map mrow ∧ rows 3 = fs.map frow ∧ vr.length ≤ i ∧ ms.length ≤ i ∧ fs.length ≤ i
theorem flat_len (sz : Nat) : ∀ rows : List (List AV), (∀ r ∈ rows, r.length = sz) → rows.flatten.length = rows.length * sz := by
  intro rows
  induction rows with
  | nil => intro _; simp
  | cons a l ih =>
    intro h
    rw [List.flatten_cons, List.length_append, h a (List.mem_cons_self ..), ih (fun r hr => h r (List.mem_cons_of_mem _ hr)), List.length_cons, Nat.add_mul]
    omega
theorem len7 (l : List (Bool × W)) : (l.map vraw).flatten.length = l.length * 7 := by rw [flat_len 7 _ (fun r hr => by obtain ⟨_, _, rfl⟩ := List.mem_map.1 hr; rfl), List.length_map]
theorem len5 (l : List W) : (l.map mrow).flatten.length = l.length * 5 := by rw [flat_len 5 _ (fun r hr => by obtain ⟨_, _, rfl⟩ := List.mem_map.1 hr; rfl), List.length_map]
theorem len3 (l : List W) : (l.map frow).flatten.length = l.length * 3 := by rw [flat_len 3 _ (fun r hr => by obtain ⟨_, _, rfl⟩ := List.mem_map.1 hr; rfl), List.length_map]
theorem made_call (hn : (cf G n0).n0 ≤ nx) {b o : Nat} {lv : AV} {l : List A4} (hr : RdW (cf G n0) S nx b o lv l) :
    callP (cf G n0) 5 [lv] S nx (fun u S' nx' => u = .ptr nx 0 ∧ Made G n0 S nx 30 S' nx') (fun _ _ _ => False) := by
  refine callP_fn (R5_chk G n0) rfl ?_
  rw [R5_eq]
  unfold R5
  have hl := hr.len
  have hE0 : Exts (cf G n0) S nx (hset (cf G n0) S nx (some (.cells (Tr.ofList (AV.agg [.nilslice, .nilslice, .nilslice, .nilslice]).cells 0 .nil) (AV.agg [.nilslice, .nilslice, .nilslice, .nilslice]).cells.length .own))) (nx + 1) := ⟨by omega, fun b hb => by simp (disch := omega) only [hget_old]⟩
  have h0 : Made G n0 S nx 0 (hset (cf G n0) S nx (some (.cells (Tr.ofList (AV.agg [.nilslice, .nilslice, .nilslice, .nilslice]).cells 0 .nil) (AV.agg [.nilslice, .nilslice, .nilslice, .nilslice]).cells.length .own))) (nx + 1) := by
    refine ⟨fun _ => [], [], [], [], ⟨⟨fun _ => .nilslice, fun _ => [], _, hget_new hn, fun d hd => ⟨?_, Sl.nil _ _ _, fun y hy => (by cases hy), fun d' _ _ y hy => (by cases hy)⟩⟩, hE0, by omega⟩, rfl, rfl, rfl, by simp, by simp, by simp⟩
    rw [ofList_get]
    rcases d with _ | _ | _ | _ | d <;> first | rfl | omega
  repeat (with_reducible first | refine optR_go ?_ | refine optP_go ?_ | refine boxP_go ?_ | refine mkP_pair ?_ | refine mkP_go ?_ | refine joinL_go ?_ | refine joinV_go ?_ | refine joinA_go ?_ | refine joinQ_go ?_ | refine letN_go ?_ | refine boxAtP_go ?_ | refine mkAtP_pair ?_ | refine mkAtP_go ?_ | refine guardP_tt ?_ | refine guardP_tf ?_ | refine guardP_ft ?_ | refine guardP_ff ?_ | refine boolP_tt ?_ | refine boolP_ff ?_ | refine invokeP_go ?_ | refine resP_go ?_ | refine resP_go' ?_ | ((conv => arg 1; simp (disch := omega) only [setTF_eq, argsTF, nth_eq, ld1_new, ld1_old, ld_2, ld_3, ld_4, ld_5, ld_7, wr_1, wr_2, wr_3, wr_4, wr_5, wr_7, wget_same, wget_ne, ofList_get, AV.cells, xOff_ptr, xNil_ptr, xExt_tuple, notV, ib_lss, ib_gtr, ib_leq, ib_geq, ib_eql, ib_neq, List.getElem?_cons_zero, List.getElem?_cons_succ, List.length_cons, List.length_nil, Option.bind_some, Nat.zero_add, Nat.add_zero, if_true, if_false, reduceIte, Nat.reduceEqDiff, Nat.reduceAdd, Nat.reduceMul, Nat.reduceLT, Nat.reduceBEq, decide_true, decide_false, Bool.not_true, Bool.not_false, bd31, hl]); (first | refine optR_go ?_ | refine optP_go ?_ | refine boolP_tt ?_ | refine boolP_ff ?_)) | dsimp only)
  generalize hset (cf G n0) S nx (some (.cells (Tr.ofList (AV.agg [.nilslice, .nilslice, .nilslice, .nilslice]).cells 0 .nil) (AV.agg [.nilslice, .nilslice, .nilslice, .nilslice]).cells.length .own)) = S1 at h0 hE0
  refine joinH_of (fun T S' n => T 3 = some (.ptr nx 0) ∧ Made G n0 S nx 30 S' n) (fun j hj => ?_) ?_
  · refine loopP_go (fun m T S' n => ∃ i : Nat, m = 31 - i ∧ i ≤ 30 ∧ i ≤ l.length ∧ T 3 = some (.ptr nx 0) ∧ T 9 = some lv ∧ T 10 = some (.int .i64 (l.length : Int)) ∧ T 11 = some (.int .i64 (i : Int)) ∧ Made G n0 S nx i S' n) 31 ⟨0, by omega, by omega, by omega, ?_, ?_, ?_, ?_, h0⟩ ?_
    · simp only [setTF_eq, reduceIte, Nat.reduceEqDiff]
    · simp only [setTF_eq, reduceIte, Nat.reduceEqDiff]
    · simp only [setTF_eq, reduceIte, Nat.reduceEqDiff]
    · simp only [setTF_eq, reduceIte, Nat.reduceEqDiff]; rfl
    rintro m T S' n ⟨i, rfl, hi, hil, t3, t9, t10, t11, hM⟩
    have hret : ∀ (T : TF), T 3 = some (.ptr nx 0) → j T S' n := by
      intro T t3
      obtain ⟨rows, vr, ms, fs, h1, h2, h3, h4, h5, h6, h7⟩ := hM
      exact hj _ _ _ ⟨t3, rows, vr, ms, fs, h1, h2, h3, h4, by omega, by omega, by omega⟩
    repeat (with_reducible first | refine optR_go ?_ | refine optP_go ?_ | refine boxP_go ?_ | refine mkP_pair ?_ | refine mkP_go ?_ | refine joinL_go ?_ | refine joinV_go ?_ | refine joinA_go ?_ | refine joinQ_go ?_ | refine letN_go ?_ | refine boxAtP_go ?_ | refine mkAtP_pair ?_ | refine mkAtP_go ?_ | refine guardP_tt ?_ | refine guardP_tf ?_ | refine guardP_ft ?_ | refine guardP_ff ?_ | refine boolP_tt ?_ | refine boolP_ff ?_ | refine invokeP_go ?_ | refine resP_go ?_ | refine resP_go' ?_ | ((conv => arg 1; simp (disch := omega) only [setTF_eq, argsTF, nth_eq, ld1_new, ld1_old, ld_2, ld_3, ld_4, ld_5, ld_7, wr_1, wr_2, wr_3, wr_4, wr_5, wr_7, wget_same, wget_ne, ofList_get, AV.cells, xOff_ptr, xNil_ptr, xExt_tuple, notV, ib_lss, ib_gtr, ib_leq, ib_geq, ib_eql, ib_neq, List.getElem?_cons_zero, List.getElem?_cons_succ, List.length_cons, List.length_nil, Option.bind_some, Nat.zero_add, Nat.add_zero, if_true, if_false, reduceIte, Nat.reduceEqDiff, Nat.reduceAdd, Nat.reduceMul, Nat.reduceLT, Nat.reduceBEq, decide_true, decide_false, Bool.not_true, Bool.not_false, t10, t11]); (first | refine optR_go ?_ | refine optP_go ?_ | refine boolP_tt ?_ | refine boolP_ff ?_)) | dsimp only)
    refine joinH_go ?_
    refine boolP_dec (fun hlt => ?_) (fun hge => ?_)
    · have hlt : i < l.length := by omega
      have hai : l[i]? = some l[i] := List.getElem?_eq_getElem hlt
      generalize l[i] = a at hai
      have hix := hr.ix i hlt
      have hEM : Exts (cf G n0) S nx S' n := by obtain ⟨_, _, _, _, h1, _⟩ := hM; exact h1.ext
      have hle := hEM.le
      have hr' := hr.ext hEM
      have k0 := hr'.cell i a 0 _ hai rfl
      have k1 := hr'.cell i a 1 _ hai rfl
      have k2 := hr'.cell i a 2 _ hai rfl
      have k3 := hr'.cell i a 3 _ hai rfl
      rw [Nat.add_zero] at k0
      have e1 : aIBin .add (.int .i64 (i : Int)) (.int .i64 1) = some (.int .i64 ((i + 1 : Nat) : Int)) := by rw [ib_add (by omega) (by omega)]; rfl
      repeat (with_reducible first | refine optR_go ?_ | refine optP_go ?_ | refine boxP_go ?_ | refine mkP_pair ?_ | refine mkP_go ?_ | refine joinL_go ?_ | refine joinV_go ?_ | refine joinA_go ?_ | refine joinQ_go ?_ | refine letN_go ?_ | refine boxAtP_go ?_ | refine mkAtP_pair ?_ | refine mkAtP_go ?_ | refine guardP_tt ?_ | refine guardP_tf ?_ | refine guardP_ft ?_ | refine guardP_ff ?_ | refine boolP_tt ?_ | refine boolP_ff ?_ | refine invokeP_go ?_ | refine resP_go ?_ | refine resP_go' ?_ | ((conv => arg 1; simp (disch := omega) only [setTF_eq, argsTF, nth_eq, ld1_new, ld1_old, ld_2, ld_3, ld_4, ld_5, ld_7, wr_1, wr_2, wr_3, wr_4, wr_5, wr_7, wget_same, wget_ne, ofList_get, AV.cells, xOff_ptr, xNil_ptr, xExt_tuple, notV, ib_lss, ib_gtr, ib_leq, ib_geq, ib_eql, ib_neq, List.getElem?_cons_zero, List.getElem?_cons_succ, List.length_cons, List.length_nil, Option.bind_some, Nat.zero_add, Nat.add_zero, if_true, if_false, reduceIte, Nat.reduceEqDiff, Nat.reduceAdd, Nat.reduceMul, Nat.reduceLT, Nat.reduceBEq, decide_true, decide_false, Bool.not_true, Bool.not_false, t9, t10, t11, hix, k0, k1, k2, k3, al65]); (first | refine optR_go ?_ | refine optP_go ?_ | refine boolP_tt ?_ | refine boolP_ff ?_)) | dsimp only)
      refine joinH_of (fun T S' n => T 3 = some (.ptr nx 0) ∧ T 9 = some lv ∧ T 10 = some (.int .i64 (l.length : Int)) ∧ T 11 = some (.int .i64 (i : Int)) ∧ i < 30 ∧ Made G n0 S nx (i + 1) S' n) (fun j2 hj2 => ?_) ?_
      · repeat (with_reducible first | refine optR_go ?_ | refine optP_go ?_ | refine boxP_go ?_ | refine mkP_pair ?_ | refine mkP_go ?_ | refine joinL_go ?_ | refine joinV_go ?_ | refine joinA_go ?_ | refine joinQ_go ?_ | refine letN_go ?_ | refine boxAtP_go ?_ | refine mkAtP_pair ?_ | refine mkAtP_go ?_ | refine guardP_tt ?_ | refine guardP_tf ?_ | refine guardP_ft ?_ | refine guardP_ff ?_ | refine boolP_tt ?_ | refine boolP_ff ?_ | refine invokeP_go ?_ | refine resP_go ?_ | refine resP_go' ?_ | ((conv => arg 1; simp (disch := omega) only [setTF_eq, argsTF, nth_eq, ld1_new, ld1_old, ld_2, ld_3, ld_4, ld_5, ld_7, wr_1, wr_2, wr_3, wr_4, wr_5, wr_7, wget_same, wget_ne, ofList_get, AV.cells, xOff_ptr, xNil_ptr, xExt_tuple, notV, ib_lss, ib_gtr, ib_leq, ib_geq, ib_eql, ib_neq, List.getElem?_cons_zero, List.getElem?_cons_succ, List.length_cons, List.length_nil, Option.bind_some, Nat.zero_add, Nat.add_zero, if_true, if_false, reduceIte, Nat.reduceEqDiff, Nat.reduceAdd, Nat.reduceMul, Nat.reduceLT, Nat.reduceBEq, decide_true, decide_false, Bool.not_true, Bool.not_false, t9, t10, t11, hix, k0, k1, k2, k3, al65]); (first | refine optR_go ?_ | refine optP_go ?_ | refine boolP_tt ?_ | refine boolP_ff ?_)) | dsimp only)
        refine optR_of (st_all (hget_new (by omega)) (by omega) rfl (by decide) (by decide) rfl) ?_
        have hE6 : Exts (cf G n0) S' n (hset (cf G n0) (hset (cf G n0) S' n (some (.cells (Tr.ofList [.int .i64 0, .int .i64 0, .bool false, .bool false] 0 .nil) 4 .own))) n (some (.cells (writeN (Tr.ofList [.int .i64 0, .int .i64 0, .bool false, .bool false] 0 .nil) 0 (AV.agg [.int .i64 a.kind, .int .i64 a.on, .bool a.no, .bool a.bo]).cells) 4 .own))) (n + 1) := ⟨by omega, fun b hb => by simp (disch := omega) only [hget_old]⟩
        have f0 : ∀ o, aLd1 (cf G n0) (hset (cf G n0) (hset (cf G n0) S' n (some (.cells (Tr.ofList [.int .i64 0, .int .i64 0, .bool false, .bool false] 0 .nil) 4 .own))) n (some (.cells (writeN (Tr.ofList [.int .i64 0, .int .i64 0, .bool false, .bool false] 0 .nil) 0 (AV.agg [.int .i64 a.kind, .int .i64 a.on, .bool a.no, .bool a.bo]).cells) 4 .own))) (.ptr n o) = (writeN (Tr.ofList [.int .i64 0, .int .i64 0, .bool false, .bool false] 0 .nil) 0 (AV.agg [.int .i64 a.kind, .int .i64 a.on, .bool a.no, .bool a.bo]).cells).get o := fun o => ld1_new (by omega)
        generalize hset (cf G n0) (hset (cf G n0) S' n (some (.cells (Tr.ofList [.int .i64 0, .int .i64 0, .bool false, .bool false] 0 .nil) 4 .own))) n (some (.cells (writeN (Tr.ofList [.int .i64 0, .int .i64 0, .bool false, .bool false] 0 .nil) 0 (AV.agg [.int .i64 a.kind, .int .i64 a.on, .bool a.no, .bool a.bo]).cells) 4 .own)) = S6 at hE6 f0
        have g0 : aLd1 (cf G n0) S6 (.ptr n 0) = some (.int .i64 a.kind) := f0 0
        have g1 : aLd1 (cf G n0) S6 (.ptr n 1) = some (.int .i64 a.on) := f0 1
        have g2 : aLd1 (cf G n0) S6 (.ptr n 2) = some (.bool a.no) := f0 2
        have g3 : aLd1 (cf G n0) S6 (.ptr n 3) = some (.bool a.bo) := f0 3
        clear f0
        repeat (with_reducible first | refine optR_go ?_ | refine optP_go ?_ | refine boxP_go ?_ | refine mkP_pair ?_ | refine mkP_go ?_ | refine joinL_go ?_ | refine joinV_go ?_ | refine joinA_go ?_ | refine joinQ_go ?_ | refine letN_go ?_ | refine boxAtP_go ?_ | refine mkAtP_pair ?_ | refine mkAtP_go ?_ | refine guardP_tt ?_ | refine guardP_tf ?_ | refine guardP_ft ?_ | refine guardP_ff ?_ | refine boolP_tt ?_ | refine boolP_ff ?_ | refine invokeP_go ?_ | refine resP_go ?_ | refine resP_go' ?_ | ((conv => arg 1; simp (disch := omega) only [setTF_eq, argsTF, nth_eq, ld1_new, ld1_old, ld_2, ld_3, ld_4, ld_5, ld_7, wr_1, wr_2, wr_3, wr_4, wr_5, wr_7, wget_same, wget_ne, ofList_get, AV.cells, xOff_ptr, xNil_ptr, xExt_tuple, notV, ib_lss, ib_gtr, ib_leq, ib_geq, ib_eql, ib_neq, List.getElem?_cons_zero, List.getElem?_cons_succ, List.length_cons, List.length_nil, Option.bind_some, Nat.zero_add, Nat.add_zero, if_true, if_false, reduceIte, Nat.reduceEqDiff, Nat.reduceAdd, Nat.reduceMul, Nat.reduceLT, Nat.reduceBEq, decide_true, decide_false, Bool.not_true, Bool.not_false]); (first | refine optR_go ?_ | refine optP_go ?_ | refine boolP_tt ?_ | refine boolP_ff ?_)) | dsimp only)
        refine joinH_go ?_
        refine boolP_dec (fun h30 => ?_) (fun h30 => ?_)
        · repeat (with_reducible first | refine optR_go ?_ | refine optP_go ?_ | refine boxP_go ?_ | refine mkP_pair ?_ | refine mkP_go ?_ | refine joinL_go ?_ | refine joinV_go ?_ | refine joinA_go ?_ | refine joinQ_go ?_ | refine letN_go ?_ | refine boxAtP_go ?_ | refine mkAtP_pair ?_ | refine mkAtP_go ?_ | refine guardP_tt ?_ | refine guardP_tf ?_ | refine guardP_ft ?_ | refine guardP_ff ?_ | refine boolP_tt ?_ | refine boolP_ff ?_ | refine invokeP_go ?_ | refine resP_go ?_ | refine resP_go' ?_ | ((conv => arg 1; simp (disch := omega) only [setTF_eq, argsTF, nth_eq, ld1_new, ld1_old, ld_2, ld_3, ld_4, ld_5, ld_7, wr_1, wr_2, wr_3, wr_4, wr_5, wr_7, wget_same, wget_ne, ofList_get, AV.cells, xOff_ptr, xNil_ptr, xExt_tuple, notV, ib_lss, ib_gtr, ib_leq, ib_geq, ib_eql, ib_neq, List.getElem?_cons_zero, List.getElem?_cons_succ, List.length_cons, List.length_nil, Option.bind_some, Nat.zero_add, Nat.add_zero, if_true, if_false, reduceIte, Nat.reduceEqDiff, Nat.reduceAdd, Nat.reduceMul, Nat.reduceLT, Nat.reduceBEq, decide_true, decide_false, Bool.not_true, Bool.not_false]); (first | refine optR_go ?_ | refine optP_go ?_ | refine boolP_tt ?_ | refine boolP_ff ?_)) | dsimp only)
          refine hj _ _ _ ?_
          obtain ⟨rows, vr, ms, fs, h1, h2, h3, h4, h5, h6, h7⟩ := hM
          exact ⟨by simp only [setTF_eq, reduceIte, Nat.reduceEqDiff]; exact t3, rows, vr, ms, fs, h1.keep hE6, h2, h3, h4, by omega, by omega, by omega⟩
        have h30 : i < 30 := by omega
        obtain ⟨rows, vr, ms, fs, hMk, hr0, hr2, hr3, hv, hm, hf⟩ := hM
        have hMk6 := hMk.keep hE6
        repeat (with_reducible first | refine optR_go ?_ | refine optP_go ?_ | refine boxP_go ?_ | refine mkP_pair ?_ | refine mkP_go ?_ | refine joinH_go ?_ | refine joinL_go ?_ | refine joinV_go ?_ | refine joinA_go ?_ | refine joinQ_go ?_ | refine letN_go ?_ | refine boxAtP_go ?_ | refine mkAtP_pair ?_ | refine mkAtP_go ?_ | refine guardP_tt ?_ | refine guardP_tf ?_ | refine guardP_ft ?_ | refine guardP_ff ?_ | refine boolP_tt ?_ | refine boolP_ff ?_ | refine invokeP_go ?_ | refine resP_go ?_ | refine resP_go' ?_ | ((conv => arg 1; simp (disch := omega) only [setTF_eq, argsTF, nth_eq, ld1_new, ld1_old, ld_2, ld_3, ld_4, ld_5, ld_7, wr_1, wr_2, wr_3, wr_4, wr_5, wr_7, wget_same, wget_ne, ofList_get, AV.cells, xOff_ptr, xNil_ptr, xExt_tuple, notV, ib_lss, ib_gtr, ib_leq, ib_geq, ib_eql, ib_neq, List.getElem?_cons_zero, List.getElem?_cons_succ, List.length_cons, List.length_nil, Option.bind_some, Nat.zero_add, Nat.add_zero, if_true, if_false, reduceIte, Nat.reduceEqDiff, Nat.reduceAdd, Nat.reduceMul, Nat.reduceLT, Nat.reduceBEq, decide_true, decide_false, Bool.not_true, Bool.not_false, t3, g0]); (first | refine optR_go ?_ | refine optP_go ?_ | refine boolP_tt ?_ | refine boolP_ff ?_)) | dsimp only)
        refine boolP_dec (fun hk1 => ?_) (fun hk1 => ?_)
        · obtain ⟨s, hs, hpush⟩ := hMk6.push (d := 2) (st := 28) (m := mrow ⟨a.on, a.no⟩) hn (by decide) (.inr (.inl rfl)) (el28 G n0) (by rw [hr2, len5]; simp [mrow]; omega) rfl rfl
          repeat (with_reducible first | refine optR_go ?_ | refine optP_go ?_ | refine boxP_go ?_ | refine mkP_pair ?_ | refine mkP_go ?_ | refine joinH_go ?_ | refine joinL_go ?_ | refine joinV_go ?_ | refine joinA_go ?_ | refine joinQ_go ?_ | refine letN_go ?_ | refine boxAtP_go ?_ | refine mkAtP_pair ?_ | refine mkAtP_go ?_ | refine guardP_tt ?_ | refine guardP_tf ?_ | refine guardP_ft ?_ | refine guardP_ff ?_ | refine boolP_tt ?_ | refine boolP_ff ?_ | refine invokeP_go ?_ | refine resP_go ?_ | refine resP_go' ?_ | ((conv => arg 1; simp (disch := omega) only [setTF_eq, argsTF, nth_eq, ld1_new, ld1_old, ld_2, ld_3, ld_4, ld_5, ld_7, wr_1, wr_2, wr_3, wr_4, wr_5, wr_7, wget_same, wget_ne, ofList_get, AV.cells, xOff_ptr, xNil_ptr, xExt_tuple, notV, ib_lss, ib_gtr, ib_leq, ib_geq, ib_eql, ib_neq, List.getElem?_cons_zero, List.getElem?_cons_succ, List.length_cons, List.length_nil, Option.bind_some, Nat.zero_add, Nat.add_zero, if_true, if_false, reduceIte, Nat.reduceEqDiff, Nat.reduceAdd, Nat.reduceMul, Nat.reduceLT, Nat.reduceBEq, decide_true, decide_false, Bool.not_true, Bool.not_false, t3, g1, g2, hs, bd43, sv28]); (first | refine optR_go ?_ | refine optP_go ?_ | refine boolP_tt ?_ | refine boolP_ff ?_)) | dsimp only)
          refine hpush _ _ (n + 1 + 10) _ ⟨by omega, fun b hb => by simp (disch := omega) only [hget_old]⟩ (by omega) (by omega) (hget_new (by omega)) ?_
          intro s' S3 S4 hst hM4
          repeat (with_reducible first | refine optR_go ?_ | refine optP_go ?_ | refine boxP_go ?_ | refine mkP_pair ?_ | refine mkP_go ?_ | refine joinH_go ?_ | refine joinL_go ?_ | refine joinV_go ?_ | refine joinA_go ?_ | refine joinQ_go ?_ | refine letN_go ?_ | refine boxAtP_go ?_ | refine mkAtP_pair ?_ | refine mkAtP_go ?_ | refine guardP_tt ?_ | refine guardP_tf ?_ | refine guardP_ft ?_ | refine guardP_ff ?_ | refine boolP_tt ?_ | refine boolP_ff ?_ | refine invokeP_go ?_ | refine resP_go ?_ | refine resP_go' ?_ | ((conv => arg 1; simp (disch := omega) only [setTF_eq, argsTF, nth_eq, ld1_new, ld1_old, ld_2, ld_3, ld_4, ld_5, ld_7, wr_1, wr_2, wr_3, wr_4, wr_5, wr_7, wget_same, wget_ne, ofList_get, AV.cells, xOff_ptr, xNil_ptr, xExt_tuple, notV, ib_lss, ib_gtr, ib_leq, ib_geq, ib_eql, ib_neq, List.getElem?_cons_zero, List.getElem?_cons_succ, List.length_cons, List.length_nil, Option.bind_some, Nat.zero_add, Nat.add_zero, if_true, if_false, reduceIte, Nat.reduceEqDiff, Nat.reduceAdd, Nat.reduceMul, Nat.reduceLT, Nat.reduceBEq, decide_true, decide_false, Bool.not_true, Bool.not_false, t3, hst]); (first | refine optR_go ?_ | refine optP_go ?_ | refine boolP_tt ?_ | refine boolP_ff ?_)) | dsimp only)
          refine hj2 _ _ _ ⟨?_, ?_, ?_, ?_, h30, _, vr, ms ++ [⟨a.on, a.no⟩], fs, hM4, ?_, ?_, ?_, ?_, ?_, ?_⟩
          · simp only [setTF_eq, reduceIte, Nat.reduceEqDiff]; exact t3
          · simp only [setTF_eq, reduceIte, Nat.reduceEqDiff]; exact t9
          · simp only [setTF_eq, reduceIte, Nat.reduceEqDiff]; exact t10
          · simp only [setTF_eq, reduceIte, Nat.reduceEqDiff]; exact t11
          · simp [upd, hr0]
          · simp [upd, hr2]
          · simp [upd, hr3]
          · first | omega | (simp; omega)
          · first | omega | (simp; omega)
          · first | omega | (simp; omega)
        · repeat (with_reducible first | refine optR_go ?_ | refine optP_go ?_ | refine boxP_go ?_ | refine mkP_pair ?_ | refine mkP_go ?_ | refine joinH_go ?_ | refine joinL_go ?_ | refine joinV_go ?_ | refine joinA_go ?_ | refine joinQ_go ?_ | refine letN_go ?_ | refine boxAtP_go ?_ | refine mkAtP_pair ?_ | refine mkAtP_go ?_ | refine guardP_tt ?_ | refine guardP_tf ?_ | refine guardP_ft ?_ | refine guardP_ff ?_ | refine boolP_tt ?_ | refine boolP_ff ?_ | refine invokeP_go ?_ | refine resP_go ?_ | refine resP_go' ?_ | ((conv => arg 1; simp (disch := omega) only [setTF_eq, argsTF, nth_eq, ld1_new, ld1_old, ld_2, ld_3, ld_4, ld_5, ld_7, wr_1, wr_2, wr_3, wr_4, wr_5, wr_7, wget_same, wget_ne, ofList_get, AV.cells, xOff_ptr, xNil_ptr, xExt_tuple, notV, ib_lss, ib_gtr, ib_leq, ib_geq, ib_eql, ib_neq, List.getElem?_cons_zero, List.getElem?_cons_succ, List.length_cons, List.length_nil, Option.bind_some, Nat.zero_add, Nat.add_zero, if_true, if_false, reduceIte, Nat.reduceEqDiff, Nat.reduceAdd, Nat.reduceMul, Nat.reduceLT, Nat.reduceBEq, decide_true, decide_false, Bool.not_true, Bool.not_false]); (first | refine optR_go ?_ | refine optP_go ?_ | refine boolP_tt ?_ | refine boolP_ff ?_)) | dsimp only)
          refine boolP_dec (fun hk2 => ?_) (fun hk2 => ?_)
          · obtain ⟨s, hs, hpush⟩ := hMk6.push (d := 3) (st := 29) (m := frow ⟨a.on, a.no⟩) hn (by decide) (.inr (.inr (.inl rfl))) (el29 G n0) (by rw [hr3, len3]; simp [frow]; omega) rfl rfl
            repeat (with_reducible first | refine optR_go ?_ | refine optP_go ?_ | refine boxP_go ?_ | refine mkP_pair ?_ | refine mkP_go ?_ | refine joinH_go ?_ | refine joinL_go ?_ | refine joinV_go ?_ | refine joinA_go ?_ | refine joinQ_go ?_ | refine letN_go ?_ | refine boxAtP_go ?_ | refine mkAtP_pair ?_ | refine mkAtP_go ?_ | refine guardP_tt ?_ | refine guardP_tf ?_ | refine guardP_ft ?_ | refine guardP_ff ?_ | refine boolP_tt ?_ | refine boolP_ff ?_ | refine invokeP_go ?_ | refine resP_go ?_ | refine resP_go' ?_ | ((conv => arg 1; simp (disch := omega) only [setTF_eq, argsTF, nth_eq, ld1_new, ld1_old, ld_2, ld_3, ld_4, ld_5, ld_7, wr_1, wr_2, wr_3, wr_4, wr_5, wr_7, wget_same, wget_ne, ofList_get, AV.cells, xOff_ptr, xNil_ptr, xExt_tuple, notV, ib_lss, ib_gtr, ib_leq, ib_geq, ib_eql, ib_neq, List.getElem?_cons_zero, List.getElem?_cons_succ, List.length_cons, List.length_nil, Option.bind_some, Nat.zero_add, Nat.add_zero, if_true, if_false, reduceIte, Nat.reduceEqDiff, Nat.reduceAdd, Nat.reduceMul, Nat.reduceLT, Nat.reduceBEq, decide_true, decide_false, Bool.not_true, Bool.not_false, t3, g1, g2, hs, bd45, sv29]); (first | refine optR_go ?_ | refine optP_go ?_ | refine boolP_tt ?_ | refine boolP_ff ?_)) | dsimp only)
            refine hpush _ _ (n + 1 + 10) _ ⟨by omega, fun b hb => by simp (disch := omega) only [hget_old]⟩ (by omega) (by omega) (hget_new (by omega)) ?_
            intro s' S3 S4 hst hM4
            repeat (with_reducible first | refine optR_go ?_ | refine optP_go ?_ | refine boxP_go ?_ | refine mkP_pair ?_ | refine mkP_go ?_ | refine joinH_go ?_ | refine joinL_go ?_ | refine joinV_go ?_ | refine joinA_go ?_ | refine joinQ_go ?_ | refine letN_go ?_ | refine boxAtP_go ?_ | refine mkAtP_pair ?_ | refine mkAtP_go ?_ | refine guardP_tt ?_ | refine guardP_tf ?_ | refine guardP_ft ?_ | refine guardP_ff ?_ | refine boolP_tt ?_ | refine boolP_ff ?_ | refine invokeP_go ?_ | refine resP_go ?_ | refine resP_go' ?_ | ((conv => arg 1; simp (disch := omega) only [setTF_eq, argsTF, nth_eq, ld1_new, ld1_old, ld_2, ld_3, ld_4, ld_5, ld_7, wr_1, wr_2, wr_3, wr_4, wr_5, wr_7, wget_same, wget_ne, ofList_get, AV.cells, xOff_ptr, xNil_ptr, xExt_tuple, notV, ib_lss, ib_gtr, ib_leq, ib_geq, ib_eql, ib_neq, List.getElem?_cons_zero, List.getElem?_cons_succ, List.length_cons, List.length_nil, Option.bind_some, Nat.zero_add, Nat.add_zero, if_true, if_false, reduceIte, Nat.reduceEqDiff, Nat.reduceAdd, Nat.reduceMul, Nat.reduceLT, Nat.reduceBEq, decide_true, decide_false, Bool.not_true, Bool.not_false, t3, hst]); (first | refine optR_go ?_ | refine optP_go ?_ | refine boolP_tt ?_ | refine boolP_ff ?_)) | dsimp only)
            refine hj2 _ _ _ ⟨?_, ?_, ?_, ?_, h30, _, vr, ms, fs ++ [⟨a.on, a.no⟩], hM4, ?_, ?_, ?_, ?_, ?_, ?_⟩
            · simp only [setTF_eq, reduceIte, Nat.reduceEqDiff]; exact t3
            · simp only [setTF_eq, reduceIte, Nat.reduceEqDiff]; exact t9
            · simp only [setTF_eq, reduceIte, Nat.reduceEqDiff]; exact t10
            · simp only [setTF_eq, reduceIte, Nat.reduceEqDiff]; exact t11
            · simp [upd, hr0]
            · simp [upd, hr2]
            · simp [upd, hr3]
            · first | omega | (simp; omega)
            · first | omega | (simp; omega)
            · first | omega | (simp; omega)
          · repeat (with_reducible first | refine optR_go ?_ | refine optP_go ?_ | refine boxP_go ?_ | refine mkP_pair ?_ | refine mkP_go ?_ | refine joinL_go ?_ | refine joinV_go ?_ | refine joinA_go ?_ | refine joinQ_go ?_ | refine letN_go ?_ | refine boxAtP_go ?_ | refine mkAtP_pair ?_ | refine mkAtP_go ?_ | refine guardP_tt ?_ | refine guardP_tf ?_ | refine guardP_ft ?_ | refine guardP_ff ?_ | refine boolP_tt ?_ | refine boolP_ff ?_ | refine invokeP_go ?_ | refine resP_go ?_ | refine resP_go' ?_ | ((conv => arg 1; simp (disch := omega) only [setTF_eq, argsTF, nth_eq, ld1_new, ld1_old, ld_2, ld_3, ld_4, ld_5, ld_7, wr_1, wr_2, wr_3, wr_4, wr_5, wr_7, wget_same, wget_ne, ofList_get, AV.cells, xOff_ptr, xNil_ptr, xExt_tuple, notV, ib_lss, ib_gtr, ib_leq, ib_geq, ib_eql, ib_neq, List.getElem?_cons_zero, List.getElem?_cons_succ, List.length_cons, List.length_nil, Option.bind_some, Nat.zero_add, Nat.add_zero, if_true, if_false, reduceIte, Nat.reduceEqDiff, Nat.reduceAdd, Nat.reduceMul, Nat.reduceLT, Nat.reduceBEq, decide_true, decide_false, Bool.not_true, Bool.not_false, t3, g1, g2, bd37a, bd40, al40]); (first | refine optR_go ?_ | refine optP_go ?_ | refine boolP_tt ?_ | refine boolP_ff ?_)) | dsimp only)
            obtain ⟨S7, c7, hst7, hc7, hrow7, hE7⟩ : ∃ (S7 : Tr AObj) (c7 : Tr AV), stV (cf G n0) (hset (cf G n0) S6 (n + 1) (some (.cells (Tr.ofList [.str [], .bool false, .bool false, .int .i64 0, .int .i64 0, .bool false, .int .i64 0] 0 .nil) 7 .own))) 7 (.ptr (n + 1) 0) (.agg (vraw (false, ⟨a.on, a.no⟩))) = some S7 ∧ hget (cf G n0) S7 (n + 1) = some (.cells c7 7 .own) ∧ IsRow c7 (vraw (false, ⟨a.on, a.no⟩)) ∧ Exts (cf G n0) S6 (n + 1) S7 (n + 1 + 1) := by
              refine ⟨_, _, st_all (hget_new (by omega)) (by omega) rfl (by decide) (by decide) rfl, hget_new (by omega), (isRow_ofList _).put (Nat.le_refl 7), ?_⟩
              exact ⟨by omega, fun b hb => by simp (disch := omega) only [hget_old]⟩
            refine optR_of hst7 ?_
            have g37 : aLd1 (cf G n0) S7 (.ptr n 3) = some (.bool a.bo) := by rw [hE7.ld1 _ _ (by omega)]; exact g3
            repeat (with_reducible first | refine optR_go ?_ | refine optP_go ?_ | refine boxP_go ?_ | refine mkP_pair ?_ | refine mkP_go ?_ | refine joinL_go ?_ | refine joinV_go ?_ | refine joinA_go ?_ | refine joinQ_go ?_ | refine letN_go ?_ | refine boxAtP_go ?_ | refine mkAtP_pair ?_ | refine mkAtP_go ?_ | refine guardP_tt ?_ | refine guardP_tf ?_ | refine guardP_ft ?_ | refine guardP_ff ?_ | refine boolP_tt ?_ | refine boolP_ff ?_ | refine invokeP_go ?_ | refine resP_go ?_ | refine resP_go' ?_ | ((conv => arg 1; simp (disch := omega) only [setTF_eq, argsTF, nth_eq, ld1_new, ld1_old, ld_2, ld_3, ld_4, ld_5, ld_7, wr_1, wr_2, wr_3, wr_4, wr_5, wr_7, wget_same, wget_ne, ofList_get, AV.cells, xOff_ptr, xNil_ptr, xExt_tuple, notV, ib_lss, ib_gtr, ib_leq, ib_geq, ib_eql, ib_neq, List.getElem?_cons_zero, List.getElem?_cons_succ, List.length_cons, List.length_nil, Option.bind_some, Nat.zero_add, Nat.add_zero, if_true, if_false, reduceIte, Nat.reduceEqDiff, Nat.reduceAdd, Nat.reduceMul, Nat.reduceLT, Nat.reduceBEq, decide_true, decide_false, Bool.not_true, Bool.not_false, t3, g37]); (first | refine optR_go ?_ | refine optP_go ?_ | refine boolP_tt ?_ | refine boolP_ff ?_)) | dsimp only)
            refine joinH_of (fun T S' n' => T 3 = some (.ptr nx 0) ∧ T 9 = some lv ∧ T 10 = some (.int .i64 (l.length : Int)) ∧ T 11 = some (.int .i64 (i : Int)) ∧ T 6 = some (.ptr (n + 1) 0) ∧ Exts (cf G n0) S6 (n + 1) S' n' ∧ n + 1 + 1 ≤ n' ∧ ∃ c7, hget (cf G n0) S' (n + 1) = some (.cells c7 7 .own) ∧ IsRow c7 (vraw (a.bo, ⟨a.on, a.no⟩))) (fun j3 hj3 => ?_) ?_
            · cases hbo : a.bo with
              | false =>
                repeat (with_reducible first | refine optR_go ?_ | refine optP_go ?_ | refine boxP_go ?_ | refine mkP_pair ?_ | refine mkP_go ?_ | refine joinL_go ?_ | refine joinV_go ?_ | refine joinA_go ?_ | refine joinQ_go ?_ | refine letN_go ?_ | refine boxAtP_go ?_ | refine mkAtP_pair ?_ | refine mkAtP_go ?_ | refine guardP_tt ?_ | refine guardP_tf ?_ | refine guardP_ft ?_ | refine guardP_ff ?_ | refine boolP_tt ?_ | refine boolP_ff ?_ | refine invokeP_go ?_ | refine resP_go ?_ | refine resP_go' ?_ | ((conv => arg 1; simp (disch := omega) only [setTF_eq, argsTF, nth_eq, ld1_new, ld1_old, ld_2, ld_3, ld_4, ld_5, ld_7, wr_1, wr_2, wr_3, wr_4, wr_5, wr_7, wget_same, wget_ne, ofList_get, AV.cells, xOff_ptr, xNil_ptr, xExt_tuple, notV, ib_lss, ib_gtr, ib_leq, ib_geq, ib_eql, ib_neq, List.getElem?_cons_zero, List.getElem?_cons_succ, List.length_cons, List.length_nil, Option.bind_some, Nat.zero_add, Nat.add_zero, if_true, if_false, reduceIte, Nat.reduceEqDiff, Nat.reduceAdd, Nat.reduceMul, Nat.reduceLT, Nat.reduceBEq, decide_true, decide_false, Bool.not_true, Bool.not_false]); (first | refine optR_go ?_ | refine optP_go ?_ | refine boolP_tt ?_ | refine boolP_ff ?_)) | dsimp only)
                refine hj3 _ _ _ ⟨?_, ?_, ?_, ?_, ?_, hE7, by omega, c7, hc7, by rw [hbo]; exact hrow7⟩
                · simp only [setTF_eq, reduceIte, Nat.reduceEqDiff]; exact t3
                · simp only [setTF_eq, reduceIte, Nat.reduceEqDiff]; exact t9
                · simp only [setTF_eq, reduceIte, Nat.reduceEqDiff]; exact t10
                · simp only [setTF_eq, reduceIte, Nat.reduceEqDiff]; exact t11
                · simp only [setTF_eq, reduceIte, Nat.reduceEqDiff]
              | true =>
                repeat (with_reducible first | refine optR_go ?_ | refine optP_go ?_ | refine boxP_go ?_ | refine mkP_pair ?_ | refine mkP_go ?_ | refine joinL_go ?_ | refine joinV_go ?_ | refine joinA_go ?_ | refine joinQ_go ?_ | refine letN_go ?_ | refine boxAtP_go ?_ | refine mkAtP_pair ?_ | refine mkAtP_go ?_ | refine guardP_tt ?_ | refine guardP_tf ?_ | refine guardP_ft ?_ | refine guardP_ff ?_ | refine boolP_tt ?_ | refine boolP_ff ?_ | refine invokeP_go ?_ | refine resP_go ?_ | refine resP_go' ?_ | ((conv => arg 1; simp (disch := omega) only [setTF_eq, argsTF, nth_eq, ld1_new, ld1_old, ld_2, ld_3, ld_4, ld_5, ld_7, wr_1, wr_2, wr_3, wr_4, wr_5, wr_7, wget_same, wget_ne, ofList_get, AV.cells, xOff_ptr, xNil_ptr, xExt_tuple, notV, ib_lss, ib_gtr, ib_leq, ib_geq, ib_eql, ib_neq, List.getElem?_cons_zero, List.getElem?_cons_succ, List.length_cons, List.length_nil, Option.bind_some, Nat.zero_add, Nat.add_zero, if_true, if_false, reduceIte, Nat.reduceEqDiff, Nat.reduceAdd, Nat.reduceMul, Nat.reduceLT, Nat.reduceBEq, decide_true, decide_false, Bool.not_true, Bool.not_false]); (first | refine optR_go ?_ | refine optP_go ?_ | refine boolP_tt ?_ | refine boolP_ff ?_)) | dsimp only)
                refine (truth_call G n0 S7 _ (by omega)).mono ?_ (fun _ _ _ h => h.elim)
                rintro u S8 n8 ⟨rfl, hE8⟩
                have hle8 := hE8.le
                have hc8 : hget (cf G n0) S8 (n + 1) = some (.cells c7 7 .own) := by rw [hE8.keep _ (by omega)]; exact hc7
                repeat (with_reducible first | refine optR_go ?_ | refine optP_go ?_ | refine boxP_go ?_ | refine mkP_pair ?_ | refine mkP_go ?_ | refine joinL_go ?_ | refine joinV_go ?_ | refine joinA_go ?_ | refine joinQ_go ?_ | refine letN_go ?_ | refine boxAtP_go ?_ | refine mkAtP_pair ?_ | refine mkAtP_go ?_ | refine guardP_tt ?_ | refine guardP_tf ?_ | refine guardP_ft ?_ | refine guardP_ff ?_ | refine boolP_tt ?_ | refine boolP_ff ?_ | refine invokeP_go ?_ | refine resP_go ?_ | refine resP_go' ?_ | ((conv => arg 1; simp (disch := omega) only [setTF_eq, argsTF, nth_eq, ld1_new, ld1_old, ld_2, ld_3, ld_4, ld_5, ld_7, wr_1, wr_2, wr_3, wr_4, wr_5, wr_7, wget_same, wget_ne, ofList_get, AV.cells, xOff_ptr, xNil_ptr, xExt_tuple, notV, ib_lss, ib_gtr, ib_leq, ib_geq, ib_eql, ib_neq, List.getElem?_cons_zero, List.getElem?_cons_succ, List.length_cons, List.length_nil, Option.bind_some, Nat.zero_add, Nat.add_zero, if_true, if_false, reduceIte, Nat.reduceEqDiff, Nat.reduceAdd, Nat.reduceMul, Nat.reduceLT, Nat.reduceBEq, decide_true, decide_false, Bool.not_true, Bool.not_false]); (first | refine optR_go ?_ | refine optP_go ?_ | refine boolP_tt ?_ | refine boolP_ff ?_)) | dsimp only)
                refine optR_of (st_all hc8 (by omega) rfl (by decide) (by decide) rfl) ?_
                refine hj3 _ _ _ ⟨?_, ?_, ?_, ?_, ?_, (hE7.trans hE8).hset (by omega) (by omega) (by omega), by omega, _, hget_new (by omega), ?_⟩
                · simp only [setTF_eq, reduceIte, Nat.reduceEqDiff]; exact t3
                · simp only [setTF_eq, reduceIte, Nat.reduceEqDiff]; exact t9
                · simp only [setTF_eq, reduceIte, Nat.reduceEqDiff]; exact t10
                · simp only [setTF_eq, reduceIte, Nat.reduceEqDiff]; exact t11
                · simp only [setTF_eq, reduceIte, Nat.reduceEqDiff]
                · rw [hbo]; exact hrow7.put (show 1 + 3 ≤ 7 by decide)
            · rintro T S7 n7 ⟨t3, t9, t10, t11, t6, hE7, hn7, c7, hc7, hrow7⟩
              have hMk7 := hMk6.keep hE7
              have q0 : aLd1 (cf G n0) S7 (.ptr (n + 1) 0) = some (.str []) := by rw [ld1_eq, hc7]; exact hrow7 0
              have q1 : aLd1 (cf G n0) S7 (.ptr (n + 1) 1) = some (.bool a.bo) := by rw [ld1_eq, hc7]; exact hrow7 1
              have q2 : aLd1 (cf G n0) S7 (.ptr (n + 1) 2) = some (.bool false) := by rw [ld1_eq, hc7]; exact hrow7 2
              have q3 : aLd1 (cf G n0) S7 (.ptr (n + 1) 3) = some (.int .i64 (if a.bo then 1 else 3)) := by rw [ld1_eq, hc7]; exact hrow7 3
              have q4 : aLd1 (cf G n0) S7 (.ptr (n + 1) 4) = some (.int .i64 a.on) := by rw [ld1_eq, hc7]; exact hrow7 4
              have q5 : aLd1 (cf G n0) S7 (.ptr (n + 1) 5) = some (.bool a.no) := by rw [ld1_eq, hc7]; exact hrow7 5
              have q6 : aLd1 (cf G n0) S7 (.ptr (n + 1) 6) = some (.int .i64 0) := by rw [ld1_eq, hc7]; exact hrow7 6
              obtain ⟨s, hs, hpush⟩ := hMk7.push (d := 0) (st := 26) (m := vraw (a.bo, ⟨a.on, a.no⟩)) hn (by decide) (.inl rfl) (el26 G n0) (by rw [hr0, len7]; simp [vraw]; omega) rfl rfl
              repeat (with_reducible first | refine optR_go ?_ | refine optP_go ?_ | refine boxP_go ?_ | refine mkP_pair ?_ | refine mkP_go ?_ | refine joinH_go ?_ | refine joinL_go ?_ | refine joinV_go ?_ | refine joinA_go ?_ | refine joinQ_go ?_ | refine letN_go ?_ | refine boxAtP_go ?_ | refine mkAtP_pair ?_ | refine mkAtP_go ?_ | refine guardP_tt ?_ | refine guardP_tf ?_ | refine guardP_ft ?_ | refine guardP_ff ?_ | refine boolP_tt ?_ | refine boolP_ff ?_ | refine invokeP_go ?_ | refine resP_go ?_ | refine resP_go' ?_ | ((conv => arg 1; simp (disch := omega) only [setTF_eq, argsTF, nth_eq, ld1_new, ld1_old, ld_2, ld_3, ld_4, ld_5, ld_7, wr_1, wr_2, wr_3, wr_4, wr_5, wr_7, wget_same, wget_ne, ofList_get, AV.cells, xOff_ptr, xNil_ptr, xExt_tuple, notV, ib_lss, ib_gtr, ib_leq, ib_geq, ib_eql, ib_neq, List.getElem?_cons_zero, List.getElem?_cons_succ, List.length_cons, List.length_nil, Option.bind_some, Nat.zero_add, Nat.add_zero, if_true, if_false, reduceIte, Nat.reduceEqDiff, Nat.reduceAdd, Nat.reduceMul, Nat.reduceLT, Nat.reduceBEq, decide_true, decide_false, Bool.not_true, Bool.not_false, t3, t6, hs, q0, q1, q2, q3, q4, q5, q6, sv26]); (first | refine optR_go ?_ | refine optP_go ?_ | refine boolP_tt ?_ | refine boolP_ff ?_)) | dsimp only)
              have hE67 := hE6.trans (hE7.more' (by omega))
              refine hpush _ _ (n7 + 6) _ ⟨by omega, fun b hb => by simp (disch := omega) only [hget_old]⟩ (by omega) (by omega) (hget_new (by omega)) ?_
              intro s' S3 S4 hst hM4
              repeat (with_reducible first | refine optR_go ?_ | refine optP_go ?_ | refine boxP_go ?_ | refine mkP_pair ?_ | refine mkP_go ?_ | refine joinH_go ?_ | refine joinL_go ?_ | refine joinV_go ?_ | refine joinA_go ?_ | refine joinQ_go ?_ | refine letN_go ?_ | refine boxAtP_go ?_ | refine mkAtP_pair ?_ | refine mkAtP_go ?_ | refine guardP_tt ?_ | refine guardP_tf ?_ | refine guardP_ft ?_ | refine guardP_ff ?_ | refine boolP_tt ?_ | refine boolP_ff ?_ | refine invokeP_go ?_ | refine resP_go ?_ | refine resP_go' ?_ | ((conv => arg 1; simp (disch := omega) only [setTF_eq, argsTF, nth_eq, ld1_new, ld1_old, ld_2, ld_3, ld_4, ld_5, ld_7, wr_1, wr_2, wr_3, wr_4, wr_5, wr_7, wget_same, wget_ne, ofList_get, AV.cells, xOff_ptr, xNil_ptr, xExt_tuple, notV, ib_lss, ib_gtr, ib_leq, ib_geq, ib_eql, ib_neq, List.getElem?_cons_zero, List.getElem?_cons_succ, List.length_cons, List.length_nil, Option.bind_some, Nat.zero_add, Nat.add_zero, if_true, if_false, reduceIte, Nat.reduceEqDiff, Nat.reduceAdd, Nat.reduceMul, Nat.reduceLT, Nat.reduceBEq, decide_true, decide_false, Bool.not_true, Bool.not_false, t3, hst]); (first | refine optR_go ?_ | refine optP_go ?_ | refine boolP_tt ?_ | refine boolP_ff ?_)) | dsimp only)
              refine hj2 _ _ _ ⟨?_, ?_, ?_, ?_, h30, _, vr ++ [(a.bo, ⟨a.on, a.no⟩)], ms, fs, hM4, ?_, ?_, ?_, ?_, ?_, ?_⟩
              · first | exact t3 | (simp only [setTF_eq, reduceIte, Nat.reduceEqDiff]; exact t3)
              · first | exact t9 | (simp only [setTF_eq, reduceIte, Nat.reduceEqDiff]; exact t9)
              · first | exact t10 | (simp only [setTF_eq, reduceIte, Nat.reduceEqDiff]; exact t10)
              · first | exact t11 | (simp only [setTF_eq, reduceIte, Nat.reduceEqDiff]; exact t11)
              · simp [upd, hr0]
              · simp [upd, hr2]
              · simp [upd, hr3]
              · first | omega | (simp; omega)
              · first | omega | (simp; omega)
              · first | omega | (simp; omega)
      · rintro T S' n ⟨t3, t9, t10, t11, hi30, hM⟩
        repeat (with_reducible first | refine optR_go ?_ | refine optP_go ?_ | refine boxP_go ?_ | refine mkP_pair ?_ | refine mkP_go ?_ | refine joinL_go ?_ | refine joinV_go ?_ | refine joinA_go ?_ | refine joinQ_go ?_ | refine letN_go ?_ | refine boxAtP_go ?_ | refine mkAtP_pair ?_ | refine mkAtP_go ?_ | refine guardP_tt ?_ | refine guardP_tf ?_ | refine guardP_ft ?_ | refine guardP_ff ?_ | refine boolP_tt ?_ | refine boolP_ff ?_ | refine invokeP_go ?_ | refine resP_go ?_ | refine resP_go' ?_ | ((conv => arg 1; simp (disch := omega) only [setTF_eq, argsTF, nth_eq, ld1_new, ld1_old, ld_2, ld_3, ld_4, ld_5, ld_7, wr_1, wr_2, wr_3, wr_4, wr_5, wr_7, wget_same, wget_ne, ofList_get, AV.cells, xOff_ptr, xNil_ptr, xExt_tuple, notV, ib_lss, ib_gtr, ib_leq, ib_geq, ib_eql, ib_neq, List.getElem?_cons_zero, List.getElem?_cons_succ, List.length_cons, List.length_nil, Option.bind_some, Nat.zero_add, Nat.add_zero, if_true, if_false, reduceIte, Nat.reduceEqDiff, Nat.reduceAdd, Nat.reduceMul, Nat.reduceLT, Nat.reduceBEq, decide_true, decide_false, Bool.not_true, Bool.not_false, t9, t10, t11, e1]); (first | refine optR_go ?_ | refine optP_go ?_ | refine boolP_tt ?_ | refine boolP_ff ?_)) | dsimp only)
        refine ⟨31 - (i + 1), by omega, i + 1, rfl, by omega, by omega, ?_, ?_, ?_, ?_, hM⟩ <;> simp only [setTF_eq, reduceIte, Nat.reduceEqDiff]
        · exact t3
        · exact t9
        · exact t10
    · repeat (with_reducible first | refine optR_go ?_ | refine optP_go ?_ | refine boxP_go ?_ | refine mkP_pair ?_ | refine mkP_go ?_ | refine joinL_go ?_ | refine joinV_go ?_ | refine joinA_go ?_ | refine joinQ_go ?_ | refine letN_go ?_ | refine boxAtP_go ?_ | refine mkAtP_pair ?_ | refine mkAtP_go ?_ | refine guardP_tt ?_ | refine guardP_tf ?_ | refine guardP_ft ?_ | refine guardP_ff ?_ | refine boolP_tt ?_ | refine boolP_ff ?_ | refine invokeP_go ?_ | refine resP_go ?_ | refine resP_go' ?_ | ((conv => arg 1; simp (disch := omega) only [setTF_eq, argsTF, nth_eq, ld1_new, ld1_old, ld_2, ld_3, ld_4, ld_5, ld_7, wr_1, wr_2, wr_3, wr_4, wr_5, wr_7, wget_same, wget_ne, ofList_get, AV.cells, xOff_ptr, xNil_ptr, xExt_tuple, notV, ib_lss, ib_gtr, ib_leq, ib_geq, ib_eql, ib_neq, List.getElem?_cons_zero, List.getElem?_cons_succ, List.length_cons, List.length_nil, Option.bind_some, Nat.zero_add, Nat.add_zero, if_true, if_false, reduceIte, Nat.reduceEqDiff, Nat.reduceAdd, Nat.reduceMul, Nat.reduceLT, Nat.reduceBEq, decide_true, decide_false, Bool.not_true, Bool.not_false]); (first | refine optR_go ?_ | refine optP_go ?_ | refine boolP_tt ?_ | refine boolP_ff ?_)) | dsimp only)
      exact hret _ (by simp only [setTF_eq, reduceIte, Nat.reduceEqDiff]; exact t3)
  · rintro T S' n ⟨t3, hM⟩
    repeat (with_reducible first | refine optR_go ?_ | refine optP_go ?_ | refine boxP_go ?_ | refine mkP_pair ?_ | refine mkP_go ?_ | refine joinL_go ?_ | refine joinV_go ?_ | refine joinA_go ?_ | refine joinQ_go ?_ | refine letN_go ?_ | refine boxAtP_go ?_ | refine mkAtP_pair ?_ | refine mkAtP_go ?_ | refine guardP_tt ?_ | refine guardP_tf ?_ | refine guardP_ft ?_ | refine guardP_ff ?_ | refine boolP_tt ?_ | refine boolP_ff ?_ | refine invokeP_go ?_ | refine resP_go ?_ | refine resP_go' ?_ | ((conv => arg 1; simp (disch := omega) only [setTF_eq, argsTF, nth_eq, ld1_new, ld1_old, ld_2, ld_3, ld_4, ld_5, ld_7, wr_1, wr_2, wr_3, wr_4, wr_5, wr_7, wget_same, wget_ne, ofList_get, AV.cells, xOff_ptr, xNil_ptr, xExt_tuple, notV, ib_lss, ib_gtr, ib_leq, ib_geq, ib_eql, ib_neq, List.getElem?_cons_zero, List.getElem?_cons_succ, List.length_cons, List.length_nil, Option.bind_some, Nat.zero_add, Nat.add_zero, if_true, if_false, reduceIte, Nat.reduceEqDiff, Nat.reduceAdd, Nat.reduceMul, Nat.reduceLT, Nat.reduceBEq, decide_true, decide_false, Bool.not_true, Bool.not_false, t3]); (first | refine optR_go ?_ | refine optP_go ?_ | refine boolP_tt ?_ | refine boolP_ff ?_)) | dsimp only)
    exact ⟨rfl, hM⟩
end
end
end Go.Proofs.Ytkmmngiodbbjcaa

/-! ## The clocks are brought to what may be -/
namespace Go.Proofs.Ytkmmngiodbbjcaa
open Go.AE
noncomputable section
def updf (fl : Nat → List AV) (d : Nat) (l : List AV) : Nat → List AV := fun d' => if d' = d then l else fl d'
/-- a program whose cells are written: its slices stand -/
structure Mf (G : Tr AObj) (n0 : Nat) (S : Tr AObj) (c : Nat) (s : Nat → AV) (hb : Nat → Option Nat) (fl : Nat → List AV) (S' : Tr AObj) (n : Nat) : Prop where
  ex : ∃ (bl : Nat → List Nat) (cc : Tr AV), hget (cf G n0) S' c = some (.cells cc 4 .own) ∧ ∀ d, d < 4 → cc.get d = some (s d) ∧ Sl (cf G n0) S' (s d) (szs d) (fl d) (bl d) ∧ (bl d).head? = hb d ∧ (∀ y ∈ bl d, c < y ∧ y < n) ∧ ∀ d', d' < 4 → d' ≠ d → ∀ y ∈ bl d, y ∉ bl d'
  ext : Exts (cf G n0) S c S' n
  lt : c < n
theorem Mk.mf {G : Tr AObj} {n0 : Nat} {S S' : Tr AObj} {c n : Nat} {rows : Nat → List (List AV)} (h : Mk G n0 S c rows S' n) : ∃ s hb, Mf G n0 S c s hb (fun d => (rows d).flatten) S' n := by
  obtain ⟨s, bl, cc, h1, h2⟩ := h.ex
  refine ⟨s, fun d => (bl d).head?, ⟨bl, cc, h1, fun d hd => ?_⟩, h.ext, h.lt⟩
  obtain ⟨a, b, c, d⟩ := h2 d hd
  exact ⟨a, b, rfl, c, d⟩
section
variable {G : Tr AObj} {n0 : Nat} {S S' S1 : Tr AObj} {nx n n1 c d b : Nat} {s : Nat → AV} {hb : Nat → Option Nat} {fl : Nat → List AV}
theorem Mf.keep (h : Mf G n0 S c s hb fl S' n) (hE : Exts (cf G n0) S' n S1 n1) : Mf G n0 S c s hb fl S1 n1 := by
  obtain ⟨bl, cc, h1, h2⟩ := h.ex
  have hle := hE.le
  have hlt := h.lt
  refine ⟨⟨bl, cc, by rw [hE.keep c h.lt]; exact h1, fun d hd => ?_⟩, h.ext.trans hE, by omega⟩
  obtain ⟨k1, k2, k5, k3, k4⟩ := h2 d hd
  exact ⟨k1, k2.keep fun y hy => hE.keep y (k3 y hy).2, k5, fun y hy => ⟨(k3 y hy).1, by have := (k3 y hy).2; omega⟩, k4⟩
theorem Mf.ld (h : Mf G n0 S c s hb fl S' n) (hd : d < 4) : aLd1 (cf G n0) S' (.ptr c d) = some (s d) := by
  obtain ⟨bl, cc, h1, h2⟩ := h.ex
  exact ld1_of h1 (h2 d hd).1
theorem szs_pos (d : Nat) : 0 < szs d := by unfold szs; split <;> decide
theorem Mf.at (h : Mf G n0 S c s hb fl S' n) (hd : d < 4) {i : Nat} (hi : i * szs d + szs d ≤ (fl d).length) (k : IntKind) :
    ∃ b, hb d = some b ∧ ixSV (szs d) (s d) (.int k (i : Int)) = some (.ptr b (i * szs d)) ∧ ∀ j, aLd1 (cf G n0) S' (.ptr b (i * szs d + j)) = (fl d)[i * szs d + j]? := by
  obtain ⟨bl, cc, h1, h2⟩ := h.ex
  obtain ⟨k1, k2, k5, k3, k4⟩ := h2 d hd
  obtain ⟨b, q1, q2, q3⟩ := k2.at hi (szs_pos d) k
  exact ⟨b, by rw [← k5]; exact q1, q2, q3⟩
theorem Mf.put (h : Mf G n0 S c s hb fl S1 n1) (hc : (cf G n0).n0 ≤ c) (hd : d < 4) (hbd : hb d = some b) {o : Nat} {v : AV} {vs : List AV} (hv : v.cells = vs) (h0 : 0 < vs.length) (h1 : ones vs = true) (ho : o + vs.length ≤ (fl d).length) :
    ∃ S2, stV (cf G n0) S1 vs.length (.ptr b o) v = some S2 ∧ Mf G n0 S c s hb (updf fl d (putL (fl d) o vs)) S2 n1 := by
  obtain ⟨bl, cc, g1, g2⟩ := h.ex
  have hlt := h.lt
  obtain ⟨k1, k2, k5, k3, k4⟩ := g2 d hd
  obtain ⟨S2, q1, q2, q3⟩ := k2.put (by rw [k5]; exact hbd) hv h0 h1 ho
  have hbm : b ∈ bl d := by
    rw [hbd] at k5
    cases hbl : bl d with
    | nil => rw [hbl] at k5; cases k5
    | cons x l => rw [hbl] at k5; simp at k5; subst k5; exact List.mem_cons_self ..
  refine ⟨S2, q1, ⟨fun d' => if d' = d then [b] else bl d', cc, ?_, fun d' hd' => ?_⟩, ⟨h.ext.le, fun y hy => ?_⟩, hlt⟩
  · rw [q3 c (fun e => by have := k3 c e; omega)]; exact g1
  · obtain ⟨r1, r2, r5, r3, r4⟩ := g2 d' hd'
    by_cases e : d' = d
    · subst e
      simp only [↓reduceIte, updf]
      refine ⟨r1, q2, hbd.symm, fun y hy => ?_, fun d2 hd2 hne y hy => ?_⟩
      · rw [List.mem_singleton] at hy; subst hy; exact k3 _ hbm
      · rw [List.mem_singleton] at hy; subst hy
        rw [if_neg hne]; exact k4 d2 hd2 hne _ hbm
    · simp only [if_neg e, updf]
      refine ⟨r1, r2.keep fun y hy => q3 y (r4 d hd (fun h => e h.symm) y hy), r5, r3, fun d2 hd2 hne y hy => ?_⟩
      by_cases e2 : d2 = d
      · subst e2
        rw [if_pos rfl, List.mem_singleton]
        intro hyb; subst hyb
        exact r4 d2 hd2 hne _ hy hbm
      · rw [if_neg e2]; exact r4 d2 hd2 hne y hy
  · rw [q3 y (fun e => by have := k3 y e; omega)]; exact h.ext.keep y hy
theorem Mf.rd (h : Mf G n0 S c s hb fl S' n) (hd : d < 4) (hbd : hb d = some b) (o : Nat) : aLd1 (cf G n0) S' (.ptr b o) = (fl d)[o]? := by
  obtain ⟨bl, cc, h1, h2⟩ := h.ex
  obtain ⟨k1, k2, k5, k3, k4⟩ := h2 d hd
  rcases k2 with ⟨_, _, q⟩ | ⟨b', olds, m, cc', q1, q2, q3, q4, q5, q6, q7⟩
  · rw [q, hbd] at k5; cases k5
  · rw [q3, hbd] at k5
    simp at k5
    subst k5
    rw [ld1_eq, q6]
    exact q7 o
theorem updf_eq (fl : Nat → List AV) (d : Nat) (l : List AV) : updf fl d l d = l := by simp [updf]
theorem updf_updf (fl : Nat → List AV) (d : Nat) (l m : List AV) : updf (updf fl d l) d m = updf fl d m := by
  funext x; unfold updf; split <;> rfl
/-- cells put into the midst -/
theorem putL_mid (a r t vs : List AV) (p : Nat) (h : p + vs.length ≤ r.length) : putL (a ++ (r ++ t)) (a.length + p) vs = a ++ (putL r p vs ++ t) := by
  unfold putL
  rw [List.take_append, List.drop_append, List.take_of_length_le (by omega), List.drop_eq_nil_of_le (by omega : a.length ≤ a.length + p + vs.length)]
  have e1 : a.length + p - a.length = p := by omega
  have e2 : a.length + p + vs.length - a.length = p + vs.length := by omega
  rw [e1, e2, List.take_append_of_le_length (by omega), List.drop_append_of_le_length (by omega)]
  simp
/-- bring, on a clock -/
def brW (below : Nat) (w : W) : W := if brg w.on below = below then ⟨-1, false⟩ else ⟨brg w.on below, w.no⟩
theorem Mf.bring (h : Mf G n0 S c s hb fl S1 n1) (hc : (cf G n0).n0 ≤ c) (hd : d < 4) (hbd : hb d = some b) {below p : Nat} (hbl : below ≤ 1000) {a r t : List AV} (hfl : fl d = a ++ (r ++ t)) {w : W} (h0 : r[p]? = some (.int .i64 w.on)) (h1 : r[p + 1]? = some (.bool w.no)) :
    callP (cf G n0) 6 [.ptr b (a.length + p), .ptr b (a.length + p + 1), .int .i64 below] S1 n1 (fun _ S2 n2 => n2 = n1 ∧ Mf G n0 S c s hb (updf fl d (a ++ (putL r p [.int .i64 (brW below w).on, .bool (brW below w).no] ++ t))) S2 n2) (fun _ _ _ => False) := by
  have hr : p + 1 < r.length := (List.getElem?_eq_some_iff.1 h1).1
  have hput : ∀ {fl' : Nat → List AV} {S1 : Tr AObj} {r' : List AV} {p' : Nat} {v : AV} (hM : Mf G n0 S c s hb fl' S1 n1) (hf : fl' d = a ++ (r' ++ t)) (hp : p' + 1 ≤ r'.length) (hv : v.cells = [v]) (ho : ones [v] = true),
      ∃ S2, stV (cf G n0) S1 1 (.ptr b (a.length + p')) v = some S2 ∧ Mf G n0 S c s hb (updf fl' d (a ++ (putL r' p' [v] ++ t))) S2 n1 := by
    intro fl' S1 r' p' v hM hf hp hv ho
    obtain ⟨S2, q1, q2⟩ := hM.put hc hd hbd hv (by simp) ho (o := a.length + p') (by rw [hf]; simp; omega)
    rw [hf, putL_mid _ _ _ _ _ (by simpa using hp)] at q2
    exact ⟨S2, q1, q2⟩
  have hget1 : ∀ (r t a : List AV) (p : Nat), p < r.length → (a ++ (r ++ t))[a.length + p]? = r[p]? := by
    intro r t a p hp
    rw [List.getElem?_append_right (by omega), List.getElem?_append_left (by omega)]
    congr 1; omega
  have hpl : ∀ (r : List AV) (p : Nat) (v : AV), p + 1 ≤ r.length → (putL r p [v]).length = r.length := fun r p v hp => putL_len (by simpa using hp)
  obtain ⟨S2, q1, q2⟩ := hput h hfl (p' := p) (v := .int .i64 (brg w.on below)) (by omega) rfl rfl
  refine bring_call G n0 S1 n1 b _ b _ below w.on w.no hbl S2 ?_ _ q1 ?_ (fun hne => ?_) (fun he => ?_)
  · rw [h.rd hd hbd, hfl, hget1 _ _ _ _ (by omega)]; exact h0
  · rw [q2.rd hd hbd, updf_eq, hget1 _ _ _ _ (by rw [hpl _ _ _ (by omega)]; omega), putL_get (by simp; omega)]
    simp
  · refine ⟨rfl, ?_⟩
    have hw : brW below w = ⟨brg w.on below, w.no⟩ := by unfold brW; rw [if_neg hne]
    have hl : putL r p [.int .i64 (brW below w).on, .bool (brW below w).no] = putL r p [.int .i64 (brg w.on below)] := by
      apply List.ext_getElem?
      intro i
      rw [putL_get (by simp; omega), putL_get (by simp; omega), hw]
      simp only [List.length_cons, List.length_nil]
      by_cases e1 : i = p
      · subst e1; simp
      · by_cases e2 : i = p + 1
        · subst e2
          rw [if_pos (by omega), if_neg (by omega), h1, show p + 1 - p = 1 by omega]; rfl
        · rw [if_neg (by omega), if_neg (by omega)]
    rw [hl]; exact q2
  · have hw : brW below w = ⟨-1, false⟩ := by unfold brW; rw [if_pos he]
    obtain ⟨S3, q3, q4⟩ := hput q2 (updf_eq _ _ _) (p' := p) (v := .int .i64 (-1)) (by rw [hpl _ _ _ (by omega)]; omega) rfl rfl
    obtain ⟨S4, q5, q6⟩ := hput q4 (updf_eq _ _ _) (p' := p + 1) (v := .bool false) (by rw [hpl _ _ _ (by rw [hpl _ _ _ (by omega)]; omega), hpl _ _ _ (by omega)]; omega) rfl rfl
    refine ⟨S3, S4, q3, q5, rfl, ?_⟩
    rw [updf_updf, updf_updf] at q6
    have hl : putL r p [.int .i64 (brW below w).on, .bool (brW below w).no] = putL (putL (putL r p [.int .i64 (brg w.on below)]) p [.int .i64 (-1)]) (p + 1) [.bool false] := by
      have l1 := hpl r p (.int .i64 (brg w.on below)) (by omega)
      have l2 := hpl (putL r p [.int .i64 (brg w.on below)]) p (.int .i64 (-1)) (by omega)
      apply List.ext_getElem?
      intro i
      rw [putL_get (by simp; omega), putL_get (by simp; omega), putL_get (by simp; omega), putL_get (by simp; omega), hw]
      simp only [List.length_cons, List.length_nil]
      by_cases e1 : i = p
      · rw [if_pos (by omega), if_neg (by omega), if_pos (by omega)]; subst e1; simp
      · by_cases e2 : i = p + 1
        · subst e2
          rw [if_pos (by omega), if_pos (by omega), show p + 1 - p = 1 by omega]; simp
        · rw [if_neg (by omega), if_neg (by omega), if_neg (by omega), if_neg (by omega)]
    rw [hl]; exact q6
end
end
end Go.Proofs.Ytkmmngiodbbjcaa
