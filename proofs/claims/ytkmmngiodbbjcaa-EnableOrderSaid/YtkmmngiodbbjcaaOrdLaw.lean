/- The law EnableOrder answers true; condition: how its two arguments read. -/
import Derived.Test.YtkmmngiodbbjcaaOrdMade
/-! ## The walk of EnableOrder: the clocks are brought to what may be -/
namespace Go.Proofs.Ytkmmngiodbbjcaa
open Go.AE
noncomputable section
/-- the law's words -/
structure RdV (C : Cfg) (S : Tr AObj) (lim : Nat) (wv : AV) (xs : List Int) : Prop where
  len : ∀ S', builtV C S' .len [23] [wv] = some (.int .i64 (xs.length : Int))
  cut : ∃ b o wv', (∀ S', aSlice C S' 23 wv none (some (.int .i64 ((min xs.length 30 : Nat) : Int))) none = some wv') ∧ RdU C S lim b o wv' (xs.take 30)
section
variable {G : Tr AObj} {n0 : Nat} {S S' S1 : Tr AObj} {nx n n1 c d b : Nat} {s : Nat → AV} {hb : Nat → Option Nat} {fl : Nat → List AV}
theorem Mf.more (h : Mf G n0 S c s hb fl S' n) (hn : n ≤ n1) : Mf G n0 S c s hb fl S' n1 := h.keep ⟨hn, fun _ _ => rfl⟩
theorem Mf.same (h : Mf G n0 S c s hb fl S' n) (hd : d < 4) : AV.same 30 (s d) (s d) = true := by
  obtain ⟨bl, cc, h1, h2⟩ := h.ex
  obtain ⟨_, k2, _⟩ := h2 d hd
  rcases k2 with ⟨h, _⟩ | ⟨_, _, _, _, h, _⟩ <;> rw [h] <;> simp [AV.same]
theorem Mf.len (h : Mf G n0 S c s hb fl S' n) (hd : d < 4) {t e m : Nat} (hu : (cf G n0).P.underlying t = some (.slice e)) (hl : (fl d).length = m * szs d) : builtV (cf G n0) S' .len [t] [s d] = some (.int .i64 (m : Int)) := by
  obtain ⟨bl, cc, h1, h2⟩ := h.ex
  obtain ⟨_, k2, _⟩ := h2 d hd
  rw [k2.len (szs_pos d) hu [], hl, Nat.mul_div_cancel _ (szs_pos d)]
def br3 (vr : List (Bool × W)) : List W := vr.mapIdx fun k x => brW k x.2
def brs (many : Nat) (ws : List W) : List W := ws.map (brW many)
/-- the rows that are done, and those that are not -/
def part {α : Type} (f : W → List AV) (g : α → List AV) (vs : List W) (us : List α) (k : Nat) : List AV := ((vs.take k).map f).flatten ++ ((us.drop k).map g).flatten
theorem part_at {α : Type} {f : W → List AV} {g : α → List AV} {vs : List W} {us : List α} {k : Nat} {x : α} (hx : us[k]? = some x) :
    part f g vs us k = ((vs.take k).map f).flatten ++ (g x ++ ((us.drop (k + 1)).map g).flatten) := by
  obtain ⟨hk, rfl⟩ := List.getElem?_eq_some_iff.1 hx
  unfold part
  rw [List.drop_eq_getElem_cons hk, List.map_cons, List.flatten_cons]
theorem part_next {α : Type} {f : W → List AV} {g : α → List AV} {vs : List W} {us : List α} {k : Nat} {v : W} (hv : vs[k]? = some v) :
    ((vs.take k).map f).flatten ++ (f v ++ ((us.drop (k + 1)).map g).flatten) = part f g vs us (k + 1) := by
  obtain ⟨hk, rfl⟩ := List.getElem?_eq_some_iff.1 hv
  unfold part
  rw [List.take_succ_eq_append_getElem hk, List.map_append, List.flatten_append, List.append_assoc]
  simp only [List.map_cons, List.map_nil, List.flatten_cons, List.flatten_nil, List.append_nil]
theorem part_len {f : W → List AV} {vs : List W} {k sz : Nat} (hk : k ≤ vs.length) (hf : ∀ w, (f w).length = sz) : ((vs.take k).map f).flatten.length = k * sz := by
  rw [flat_len sz _ (fun r hr => by obtain ⟨_, _, rfl⟩ := List.mem_map.1 hr; exact hf _), List.length_map, List.length_take, Nat.min_eq_left hk]
theorem part_end {α : Type} {f : W → List AV} {g : α → List AV} {vs : List W} {us : List α} {k : Nat} (h1 : vs.length ≤ k) (h2 : us.length ≤ k) : part f g vs us k = (vs.map f).flatten := by
  unfold part
  rw [List.take_of_length_le h1, List.drop_eq_nil_of_le h2]; simp
theorem part_zero {α : Type} {f : W → List AV} {g : α → List AV} {vs : List W} {us : List α} : part f g vs us 0 = (us.map g).flatten := by simp [part]
theorem Mf.rda (h : Mf G n0 S c s hb fl S' n) (hd : d < 4) {t e : Nat} {rows : List (List AV)} (hu : (cf G n0).P.underlying t = some (.slice e)) (hf : fl d = rows.flatten) (hl : ∀ r ∈ rows, r.length = szs d) (hm : rows.length ≤ 1048576) : ∃ b, b < n ∧ RdA (cf G n0) S' n b (s d) t (szs d) rows := by
  obtain ⟨bl, cc, h1, h2⟩ := h.ex
  obtain ⟨_, k2, k5, k3, _⟩ := h2 d hd
  rw [hf] at k2
  obtain ⟨b, q1, q2⟩ := k2.rows (szs_pos d) hl hu hm (lim := n) (fun y hy => (k3 y hy).2)
  by_cases e : rows = []
  · subst e
    exact ⟨0, by have := h.lt; omega, fun e => absurd rfl e, q2.many, q2.len, fun i hi => by simp at hi, fun i r j v hi => by simp at hi⟩
  · exact ⟨b, q2.hb e, q2⟩
theorem guardP_un {w : Bool} {a b : Prop} (h : b) : guardP w AE.undef a b := ⟨h⟩
theorem nbs (S : Tr AObj) (x : Bool) : aBin (cf G n0) S .neq 4 false (.bool x) (.bool x) = some (.bool false) := by rw [neB]; simp
theorem brg_range (on : Int) (below : Nat) : 0 ≤ brg on below ∧ brg on below < (below : Int) + 1 := ⟨Int.emod_nonneg _ (by omega), Int.emod_lt_of_pos _ (by omega)⟩
theorem brW_may (below : Nat) (w : W) : ((brW below w).on = -1 ∧ (brW below w).no = false) ∨ ∃ i : Nat, (brW below w).on = (i : Int) ∧ i < below := by
  have h := brg_range w.on below
  unfold brW
  split
  · exact .inl ⟨rfl, rfl⟩
  · rename_i hne
    exact .inr ⟨(brg w.on below).toNat, by simp only []; omega, by omega⟩
theorem br3_desc (vr : List (Bool × W)) : Desc (br3 vr) := by
  intro j v hj
  simp only [br3, List.getElem?_mapIdx, Option.map_eq_some_iff] at hj
  obtain ⟨x, _, rfl⟩ := hj
  exact brW_may j x.2
theorem brs_may (vr : List (Bool × W)) (ws : List W) : ∀ w ∈ brs vr.length ws, MayB (br3 vr) w := by
  intro w hw
  obtain ⟨x, _, rfl⟩ := List.mem_map.1 hw
  have hvs : (br3 vr).length = vr.length := by simp [br3]
  rcases brW_may vr.length x with h | ⟨i, h1, h2⟩
  · exact .inl h
  · exact .inr ⟨i, h1, by omega⟩
theorem Fin.parOk {vs ws : List W} {L : List Ck} (h : Fin vs ws L) : ParOk L := by
  intro i c hc
  rcases h.par i c hc with ⟨_, _, h⟩ | ⟨j, v, p, q, h1, h2, h3, h4, _⟩
  · exact .inl h
  · exact .inr ⟨p, j, h3, h4, h1⟩
theorem Fin.is {vs ws : List W} {L : List Ck} (h : Fin vs ws L) {on : Int} {no : Bool} {r : Int} {i : Nat} {c : Ck} (hr : FirstIs (isCk L on no) L.length r) (hi : L[i]? = some c) (h1 : c.on = on) (h2 : c.no = no) : r = (i : Int) := by
  have hil := (List.getElem?_eq_some_iff.1 hi).1
  rcases hr with ⟨_, h0⟩ | ⟨k, hk, rfl, hp, _⟩
  · have := h0 i hil
    simp [isCk, hi, h1, h2] at this
  · have hk' : L[k]? = some L[k] := List.getElem?_eq_getElem hk
    simp only [isCk, hk', Bool.and_eq_true, decide_eq_true_eq, beq_iff_eq] at hp
    have := h.dist k i _ _ hk' hi (by rw [hp.1, h1]) (by rw [hp.2, h2])
    rw [this]
theorem first_ck {L : List Ck} {on : Int} {no : Bool} {r : Int} (hr : FirstIs (isCk L on no) L.length r) : r = -1 ∨ ∃ (k : Nat) (c : Ck), r = (k : Int) ∧ L[k]? = some c ∧ c.on = on ∧ c.no = no := by
  rcases hr with ⟨h, _⟩ | ⟨k, hk, rfl, hp, _⟩
  · exact .inl h
  · have hk' : L[k]? = some L[k] := List.getElem?_eq_getElem hk
    simp only [isCk, hk', Bool.and_eq_true, decide_eq_true_eq, beq_iff_eq] at hp
    exact .inr ⟨k, _, rfl, hk', hp.1, hp.2⟩
theorem min30 (n : Nat) : builtV (cf G n0) S .min [3, 3] [.int .i64 (n : Int), .int .i64 30] = some (.int .i64 ((min n 30 : Nat) : Int)) := by
  by_cases h : n ≤ 30
  · rw [Nat.min_eq_left h]
    simp only [builtV, aMM, cnd_ite, intLt_eq]
    simp; omega
  · rw [Nat.min_eq_right (by omega)]
    simp only [builtV, aMM, cnd_ite, intLt_eq]
    simp; omega
theorem RdU.lift {C : Cfg} {S : Tr AObj} {lim lim' b o : Nat} {wv : AV} {xs : List Int} (h : RdU C S lim b o wv xs) (k : lim ≤ lim') : RdU C S lim' b o wv xs :=
  ⟨fun e => Nat.lt_of_lt_of_le (h.hb e) k, h.many, h.len, h.ix, h.cell⟩
set_option maxRecDepth 100000 in
theorem order_call (hn : (cf G n0).n0 ≤ nx) {b o : Nat} {lv wv : AV} {l : List A4} {xs : List Int} (hr : RdW (cf G n0) S nx b o lv l) (hw : RdV (cf G n0) S nx wv xs) :
    callP (cf G n0) 3 [lv, wv] S nx (fun u S' nx' => u = .bool true ∧ Exts (cf G n0) S nx S' nx') (fun _ _ _ => False) := by
  refine callP_fn (R3_chk G n0) rfl ?_
  rw [R3_eq]
  unfold R3
  refine (made_call hn hr).mono ?_ (fun _ _ _ h => h.elim)
  rintro u S1 n1 ⟨rfl, rows, vr, ms, fs, hMk, hr0, hr2, hr3, hv, hm, hf⟩
  obtain ⟨s, hb, hM⟩ := hMk.mf
  have hc : nx < n1 := hM.lt
  have ld0 := hM.ld (d := 0) (by decide)
  have len0 := hM.len (d := 0) (t := 26) (m := vr.length) (by decide) (und26 G n0) (by simp only [hr0, len7]; rfl)
  repeat (with_reducible first | refine optR_go ?_ | refine optP_go ?_ | refine boxP_go ?_ | refine mkP_pair ?_ | refine mkP_go ?_ | refine joinL_go ?_ | refine joinV_go ?_ | refine joinA_go ?_ | refine joinQ_go ?_ | refine letN_go ?_ | refine boxAtP_go ?_ | refine mkAtP_pair ?_ | refine mkAtP_go ?_ | refine guardP_tt ?_ | refine guardP_tf ?_ | refine guardP_ft ?_ | refine guardP_ff ?_ | refine guardP_un ?_ | refine boolP_tt ?_ | refine boolP_ff ?_ | refine invokeP_go ?_ | refine resP_go ?_ | refine resP_go' ?_ | ((conv => arg 1; simp (disch := omega) only [setTF_eq, argsTF, nth_eq, ld1_new, ld1_old, ld_2, ld_3, ld_4, ld_5, ld_7, wr_1, wr_2, wr_3, wr_4, wr_5, wr_7, wget_same, wget_ne, ofList_get, AV.cells, xOff_ptr, xNil_ptr, xExt_tuple, notV, ib_lss, ib_gtr, ib_leq, ib_geq, ib_eql, ib_neq, List.getElem?_cons_zero, List.getElem?_cons_succ, List.length_cons, List.length_nil, Option.bind_some, Nat.zero_add, Nat.add_zero, if_true, if_false, reduceIte, Nat.reduceEqDiff, Nat.reduceAdd, Nat.reduceMul, Nat.reduceLT, Nat.reduceBEq, decide_true, decide_false, Bool.not_true, Bool.not_false, ld0, len0]); (first | refine optR_go ?_ | refine optP_go ?_ | refine boolP_tt ?_ | refine boolP_ff ?_)) | dsimp only)
  have hvs : (br3 vr).length = vr.length := by simp [br3]
  refine joinH_of (fun T S' n => T 1 = some wv ∧ T 5 = some (.ptr nx 0) ∧ T 6 = some (.int .i64 (vr.length : Int)) ∧ T 7 = some (.func (.func 6) [] []) ∧ ∃ fl, Mf G n0 S nx s hb fl S' n ∧ fl 0 = ((br3 vr).map vrow).flatten ∧ fl 2 = (ms.map mrow).flatten ∧ fl 3 = (fs.map frow).flatten) (fun j hj => ?_) ?_
  · refine loopP_go (fun m T S' n => ∃ k : Nat, m = vr.length - k ∧ k ≤ vr.length ∧ T 1 = some wv ∧ T 5 = some (.ptr nx 0) ∧ T 6 = some (.int .i64 (vr.length : Int)) ∧ T 7 = some (.func (.func 6) [] []) ∧ T 33 = some (.int .i64 (vr.length : Int)) ∧ T 34 = some (.int .i64 (k : Int)) ∧
        ∃ fl, Mf G n0 S nx s hb fl S' n ∧ fl 0 = part vrow vraw (br3 vr) vr k ∧ fl 2 = (ms.map mrow).flatten ∧ fl 3 = (fs.map frow).flatten) vr.length ⟨0, by omega, by omega, ?_, ?_, ?_, ?_, ?_, ?_, _, hM, ?_, ?_, ?_⟩ ?_
    · simp only [setTF_eq, reduceIte, Nat.reduceEqDiff, argsTF, nth_eq, List.getElem?_cons_zero, List.getElem?_cons_succ]
    · simp only [setTF_eq, reduceIte, Nat.reduceEqDiff]
    · simp only [setTF_eq, reduceIte, Nat.reduceEqDiff]
    · simp only [setTF_eq, reduceIte, Nat.reduceEqDiff]
    · simp only [setTF_eq, reduceIte, Nat.reduceEqDiff]
    · simp only [setTF_eq, reduceIte, Nat.reduceEqDiff]; rfl
    · simp only [hr0, part_zero]
    · simp only [hr2]
    · simp only [hr3]
    clear hM ld0 len0
    rintro m T S' n ⟨k, rfl, hk, t1, t5, t6, t7, t33, t34, fl, hM, hf0, hf2, hf3⟩
    repeat (with_reducible first | refine optR_go ?_ | refine optP_go ?_ | refine boxP_go ?_ | refine mkP_pair ?_ | refine mkP_go ?_ | refine joinL_go ?_ | refine joinV_go ?_ | refine joinA_go ?_ | refine joinQ_go ?_ | refine letN_go ?_ | refine boxAtP_go ?_ | refine mkAtP_pair ?_ | refine mkAtP_go ?_ | refine guardP_tt ?_ | refine guardP_tf ?_ | refine guardP_ft ?_ | refine guardP_ff ?_ | refine guardP_un ?_ | refine boolP_tt ?_ | refine boolP_ff ?_ | refine invokeP_go ?_ | refine resP_go ?_ | refine resP_go' ?_ | ((conv => arg 1; simp (disch := omega) only [setTF_eq, argsTF, nth_eq, ld1_new, ld1_old, ld_2, ld_3, ld_4, ld_5, ld_7, wr_1, wr_2, wr_3, wr_4, wr_5, wr_7, wget_same, wget_ne, ofList_get, AV.cells, xOff_ptr, xNil_ptr, xExt_tuple, notV, ib_lss, ib_gtr, ib_leq, ib_geq, ib_eql, ib_neq, List.getElem?_cons_zero, List.getElem?_cons_succ, List.length_cons, List.length_nil, Option.bind_some, Nat.zero_add, Nat.add_zero, if_true, if_false, reduceIte, Nat.reduceEqDiff, Nat.reduceAdd, Nat.reduceMul, Nat.reduceLT, Nat.reduceBEq, decide_true, decide_false, Bool.not_true, Bool.not_false, t33, t34]); (first | refine optR_go ?_ | refine optP_go ?_ | refine boolP_tt ?_ | refine boolP_ff ?_)) | dsimp only)
    refine joinH_go ?_
    refine boolP_dec (fun hlt => ?_) (fun hge => ?_)
    · have hlt : k < vr.length := by omega
      have hxk : vr[k]? = some vr[k] := List.getElem?_eq_getElem hlt
      have hvk : (br3 vr)[k]? = some (brW k vr[k].2) := by simp [br3, hxk]
      generalize vr[k] = x at hxk hvk
      have hle := hM.ext.le
      have ld0 := hM.ld (d := 0) (by decide)
      have hpa := part_at (f := vrow) (g := vraw) (vs := br3 vr) hxk
      have hal := part_len (f := vrow) (vs := br3 vr) (k := k) (sz := 7) (by omega) (fun w => rfl)
      have e1 : aIBin .add (.int .i64 (k : Int)) (.int .i64 1) = some (.int .i64 ((k + 1 : Nat) : Int)) := by rw [ib_add (by omega) (by omega)]; rfl
      obtain ⟨bb, hbb, hix, _⟩ := hM.at (d := 0) (i := k) (by decide) (by rw [hf0, hpa]; simp only [List.length_append, hal]; simp [szs, vraw]) .i64
      have hix : ixSV 7 (s 0) (.int .i64 (k : Int)) = some (.ptr bb (k * 7)) := hix
      repeat (with_reducible first | refine optR_go ?_ | refine optP_go ?_ | refine boxP_go ?_ | refine mkP_pair ?_ | refine mkP_go ?_ | refine joinH_go ?_ | refine joinL_go ?_ | refine joinV_go ?_ | refine joinA_go ?_ | refine joinQ_go ?_ | refine letN_go ?_ | refine boxAtP_go ?_ | refine mkAtP_pair ?_ | refine mkAtP_go ?_ | refine guardP_tt ?_ | refine guardP_tf ?_ | refine guardP_ft ?_ | refine guardP_ff ?_ | refine guardP_un ?_ | refine boolP_tt ?_ | refine boolP_ff ?_ | refine invokeP_go ?_ | refine resP_go ?_ | refine resP_go' ?_ | ((conv => arg 1; simp (disch := omega) only [setTF_eq, argsTF, nth_eq, ld1_new, ld1_old, ld_2, ld_3, ld_4, ld_5, ld_7, wr_1, wr_2, wr_3, wr_4, wr_5, wr_7, wget_same, wget_ne, ofList_get, AV.cells, xOff_ptr, xNil_ptr, xExt_tuple, notV, ib_lss, ib_gtr, ib_leq, ib_geq, ib_eql, ib_neq, List.getElem?_cons_zero, List.getElem?_cons_succ, List.length_cons, List.length_nil, Option.bind_some, Nat.zero_add, Nat.add_zero, if_true, if_false, reduceIte, Nat.reduceEqDiff, Nat.reduceAdd, Nat.reduceMul, Nat.reduceLT, Nat.reduceBEq, decide_true, decide_false, Bool.not_true, Bool.not_false, t5, t34, ld0]); (first | refine optR_go ?_ | refine optP_go ?_ | refine boolP_tt ?_ | refine boolP_ff ?_)) | dsimp only)
      refine (truth_call G n0 S' _ (by omega)).mono ?_ (fun _ _ _ h => h.elim)
      rintro u S2 n2 ⟨rfl, hE2⟩
      have hM2 := hM.keep (hE2.more' (by omega : n ≤ n + 9))
      have ld2 := hM2.ld (d := 0) (by decide)
      repeat (with_reducible first | refine optR_go ?_ | refine optP_go ?_ | refine boxP_go ?_ | refine mkP_pair ?_ | refine mkP_go ?_ | refine joinH_go ?_ | refine joinL_go ?_ | refine joinV_go ?_ | refine joinA_go ?_ | refine joinQ_go ?_ | refine letN_go ?_ | refine boxAtP_go ?_ | refine mkAtP_pair ?_ | refine mkAtP_go ?_ | refine guardP_tt ?_ | refine guardP_tf ?_ | refine guardP_ft ?_ | refine guardP_ff ?_ | refine guardP_un ?_ | refine boolP_tt ?_ | refine boolP_ff ?_ | refine invokeP_go ?_ | refine resP_go ?_ | refine resP_go' ?_ | ((conv => arg 1; simp (disch := omega) only [setTF_eq, argsTF, nth_eq, ld1_new, ld1_old, ld_2, ld_3, ld_4, ld_5, ld_7, wr_1, wr_2, wr_3, wr_4, wr_5, wr_7, wget_same, wget_ne, ofList_get, AV.cells, xOff_ptr, xNil_ptr, xExt_tuple, notV, ib_lss, ib_gtr, ib_leq, ib_geq, ib_eql, ib_neq, List.getElem?_cons_zero, List.getElem?_cons_succ, List.length_cons, List.length_nil, Option.bind_some, Nat.zero_add, Nat.add_zero, if_true, if_false, reduceIte, Nat.reduceEqDiff, Nat.reduceAdd, Nat.reduceMul, Nat.reduceLT, Nat.reduceBEq, decide_true, decide_false, Bool.not_true, Bool.not_false, hix, ld2]); (first | refine optR_go ?_ | refine optP_go ?_ | refine boolP_tt ?_ | refine boolP_ff ?_)) | dsimp only)
      refine sameP_go (hM.same (by decide)) ?_
      obtain ⟨S3, hst3, hM3⟩ := hM2.put (o := (((br3 vr).take k).map vrow).flatten.length + 1) hn (by decide) hbb (v := .agg [.bool true, .bool false, .int .i64 1]) (vs := [.bool true, .bool false, .int .i64 1]) rfl (by decide) rfl (by rw [hf0, hpa]; simp only [List.length_append, vraw, List.length_cons, List.length_nil]; omega)
      rw [hf0, hpa, putL_mid _ _ _ _ _ (show 1 + 3 ≤ 7 by decide)] at hM3
      rw [hal] at hst3
      have ld3 := hM3.ld (d := 0) (by decide)
      refine optR_of hst3 ?_
      repeat (with_reducible first | refine optR_go ?_ | refine optP_go ?_ | refine boxP_go ?_ | refine mkP_pair ?_ | refine mkP_go ?_ | refine joinH_go ?_ | refine joinL_go ?_ | refine joinV_go ?_ | refine joinA_go ?_ | refine joinQ_go ?_ | refine letN_go ?_ | refine boxAtP_go ?_ | refine mkAtP_pair ?_ | refine mkAtP_go ?_ | refine guardP_tt ?_ | refine guardP_tf ?_ | refine guardP_ft ?_ | refine guardP_ff ?_ | refine guardP_un ?_ | refine boolP_tt ?_ | refine boolP_ff ?_ | refine invokeP_go ?_ | refine resP_go ?_ | refine resP_go' ?_ | ((conv => arg 1; simp (disch := omega) only [setTF_eq, argsTF, nth_eq, ld1_new, ld1_old, ld_2, ld_3, ld_4, ld_5, ld_7, wr_1, wr_2, wr_3, wr_4, wr_5, wr_7, wget_same, wget_ne, ofList_get, AV.cells, xOff_ptr, xNil_ptr, xExt_tuple, notV, ib_lss, ib_gtr, ib_leq, ib_geq, ib_eql, ib_neq, List.getElem?_cons_zero, List.getElem?_cons_succ, List.length_cons, List.length_nil, Option.bind_some, Nat.zero_add, Nat.add_zero, if_true, if_false, reduceIte, Nat.reduceEqDiff, Nat.reduceAdd, Nat.reduceMul, Nat.reduceLT, Nat.reduceBEq, decide_true, decide_false, Bool.not_true, Bool.not_false, t7, t5, ld3, hix]); (first | refine optR_go ?_ | refine optP_go ?_ | refine boolP_tt ?_ | refine boolP_ff ?_)) | dsimp only)
      have hbr := (hM3.more (by omega : n2 ≤ n2 + 17)).bring (w := x.2) (below := k) (p := 4) hn (by decide) hbb (by omega) (updf_eq _ _ _) rfl rfl
      rw [hal] at hbr
      refine hbr.mono ?_ (fun _ _ _ h => h.elim)
      rintro u S4 n4 ⟨rfl, hM4⟩
      rw [updf_updf] at hM4
      repeat (with_reducible first | refine optR_go ?_ | refine optP_go ?_ | refine boxP_go ?_ | refine mkP_pair ?_ | refine mkP_go ?_ | refine joinH_go ?_ | refine joinL_go ?_ | refine joinV_go ?_ | refine joinA_go ?_ | refine joinQ_go ?_ | refine letN_go ?_ | refine boxAtP_go ?_ | refine mkAtP_pair ?_ | refine mkAtP_go ?_ | refine guardP_tt ?_ | refine guardP_tf ?_ | refine guardP_ft ?_ | refine guardP_ff ?_ | refine guardP_un ?_ | refine boolP_tt ?_ | refine boolP_ff ?_ | refine invokeP_go ?_ | refine resP_go ?_ | refine resP_go' ?_ | ((conv => arg 1; simp (disch := omega) only [setTF_eq, argsTF, nth_eq, ld1_new, ld1_old, ld_2, ld_3, ld_4, ld_5, ld_7, wr_1, wr_2, wr_3, wr_4, wr_5, wr_7, wget_same, wget_ne, ofList_get, AV.cells, xOff_ptr, xNil_ptr, xExt_tuple, notV, ib_lss, ib_gtr, ib_leq, ib_geq, ib_eql, ib_neq, List.getElem?_cons_zero, List.getElem?_cons_succ, List.length_cons, List.length_nil, Option.bind_some, Nat.zero_add, Nat.add_zero, if_true, if_false, reduceIte, Nat.reduceEqDiff, Nat.reduceAdd, Nat.reduceMul, Nat.reduceLT, Nat.reduceBEq, decide_true, decide_false, Bool.not_true, Bool.not_false, t34, e1]); (first | refine optR_go ?_ | refine optP_go ?_ | refine boolP_tt ?_ | refine boolP_ff ?_)) | dsimp only)
      refine ⟨vr.length - (k + 1), by omega, k + 1, rfl, by omega, ?_, ?_, ?_, ?_, ?_, ?_, _, hM4, ?_, ?_, ?_⟩
      · simp only [setTF_eq, reduceIte, Nat.reduceEqDiff]; exact t1
      · simp only [setTF_eq, reduceIte, Nat.reduceEqDiff]; exact t5
      · simp only [setTF_eq, reduceIte, Nat.reduceEqDiff]; exact t6
      · simp only [setTF_eq, reduceIte, Nat.reduceEqDiff]; exact t7
      · simp only [setTF_eq, reduceIte, Nat.reduceEqDiff]; exact t33
      · simp only [setTF_eq, reduceIte, Nat.reduceEqDiff]
      · rw [updf_eq]; exact part_next (f := vrow) (g := vraw) hvk
      · exact hf2
      · exact hf3
    · have hk : k = vr.length := by omega
      repeat (with_reducible first | refine optR_go ?_ | refine optP_go ?_ | refine boxP_go ?_ | refine mkP_pair ?_ | refine mkP_go ?_ | refine joinL_go ?_ | refine joinV_go ?_ | refine joinA_go ?_ | refine joinQ_go ?_ | refine letN_go ?_ | refine boxAtP_go ?_ | refine mkAtP_pair ?_ | refine mkAtP_go ?_ | refine guardP_tt ?_ | refine guardP_tf ?_ | refine guardP_ft ?_ | refine guardP_ff ?_ | refine guardP_un ?_ | refine boolP_tt ?_ | refine boolP_ff ?_ | refine invokeP_go ?_ | refine resP_go ?_ | refine resP_go' ?_ | ((conv => arg 1; simp (disch := omega) only [setTF_eq, argsTF, nth_eq, ld1_new, ld1_old, ld_2, ld_3, ld_4, ld_5, ld_7, wr_1, wr_2, wr_3, wr_4, wr_5, wr_7, wget_same, wget_ne, ofList_get, AV.cells, xOff_ptr, xNil_ptr, xExt_tuple, notV, ib_lss, ib_gtr, ib_leq, ib_geq, ib_eql, ib_neq, List.getElem?_cons_zero, List.getElem?_cons_succ, List.length_cons, List.length_nil, Option.bind_some, Nat.zero_add, Nat.add_zero, if_true, if_false, reduceIte, Nat.reduceEqDiff, Nat.reduceAdd, Nat.reduceMul, Nat.reduceLT, Nat.reduceBEq, decide_true, decide_false, Bool.not_true, Bool.not_false]); (first | refine optR_go ?_ | refine optP_go ?_ | refine boolP_tt ?_ | refine boolP_ff ?_)) | dsimp only)
      refine hj _ _ _ ⟨?_, ?_, ?_, ?_, fl, hM, ?_, hf2, hf3⟩
      · simp only [setTF_eq, reduceIte, Nat.reduceEqDiff]; exact t1
      · simp only [setTF_eq, reduceIte, Nat.reduceEqDiff]; exact t5
      · simp only [setTF_eq, reduceIte, Nat.reduceEqDiff]; exact t6
      · simp only [setTF_eq, reduceIte, Nat.reduceEqDiff]; exact t7
      · rw [hf0]; exact part_end (by omega) (by omega)
  clear hM ld0 len0
  rintro T S2 n2 ⟨t1, t5, t6, t7, fl, hM, hf0, hf2, hf3⟩
  have ld2 := hM.ld (d := 2) (by decide)
  have len2 := hM.len (d := 2) (t := 28) (m := ms.length) (by decide) (und28 G n0) (by rw [hf2, len5]; rfl)
  repeat (with_reducible first | refine optR_go ?_ | refine optP_go ?_ | refine boxP_go ?_ | refine mkP_pair ?_ | refine mkP_go ?_ | refine joinL_go ?_ | refine joinV_go ?_ | refine joinA_go ?_ | refine joinQ_go ?_ | refine letN_go ?_ | refine boxAtP_go ?_ | refine mkAtP_pair ?_ | refine mkAtP_go ?_ | refine guardP_tt ?_ | refine guardP_tf ?_ | refine guardP_ft ?_ | refine guardP_ff ?_ | refine guardP_un ?_ | refine boolP_tt ?_ | refine boolP_ff ?_ | refine invokeP_go ?_ | refine resP_go ?_ | refine resP_go' ?_ | ((conv => arg 1; simp (disch := omega) only [setTF_eq, argsTF, nth_eq, ld1_new, ld1_old, ld_2, ld_3, ld_4, ld_5, ld_7, wr_1, wr_2, wr_3, wr_4, wr_5, wr_7, wget_same, wget_ne, ofList_get, AV.cells, xOff_ptr, xNil_ptr, xExt_tuple, notV, ib_lss, ib_gtr, ib_leq, ib_geq, ib_eql, ib_neq, List.getElem?_cons_zero, List.getElem?_cons_succ, List.length_cons, List.length_nil, Option.bind_some, Nat.zero_add, Nat.add_zero, if_true, if_false, reduceIte, Nat.reduceEqDiff, Nat.reduceAdd, Nat.reduceMul, Nat.reduceLT, Nat.reduceBEq, decide_true, decide_false, Bool.not_true, Bool.not_false, t5, ld2, len2]); (first | refine optR_go ?_ | refine optP_go ?_ | refine boolP_tt ?_ | refine boolP_ff ?_)) | dsimp only)
  refine joinH_of (fun T S' n => T 1 = some wv ∧ T 5 = some (.ptr nx 0) ∧ T 6 = some (.int .i64 (vr.length : Int)) ∧ T 7 = some (.func (.func 6) [] []) ∧ ∃ fl, Mf G n0 S nx s hb fl S' n ∧ fl 0 = ((br3 vr).map vrow).flatten ∧ fl 2 = ((brs vr.length ms).map mrow).flatten ∧ fl 3 = (fs.map frow).flatten) (fun j hj => ?_) ?_
  · refine loopP_go (fun m T S' n => ∃ k : Nat, m = ms.length - k ∧ k ≤ ms.length ∧ T 1 = some wv ∧ T 5 = some (.ptr nx 0) ∧ T 6 = some (.int .i64 (vr.length : Int)) ∧ T 7 = some (.func (.func 6) [] []) ∧ T 67 = some (.int .i64 (ms.length : Int)) ∧ T 68 = some (.int .i64 (k : Int)) ∧
        ∃ fl, Mf G n0 S nx s hb fl S' n ∧ fl 0 = ((br3 vr).map vrow).flatten ∧ fl 2 = part mrow mrow (brs vr.length ms) ms k ∧ fl 3 = (fs.map frow).flatten) ms.length ⟨0, by omega, by omega, ?_, ?_, ?_, ?_, ?_, ?_, _, hM, hf0, ?_, hf3⟩ ?_
    · simp only [setTF_eq, reduceIte, Nat.reduceEqDiff]; exact t1
    · simp only [setTF_eq, reduceIte, Nat.reduceEqDiff]; exact t5
    · simp only [setTF_eq, reduceIte, Nat.reduceEqDiff]; exact t6
    · simp only [setTF_eq, reduceIte, Nat.reduceEqDiff]; exact t7
    · simp only [setTF_eq, reduceIte, Nat.reduceEqDiff]
    · simp only [setTF_eq, reduceIte, Nat.reduceEqDiff]; rfl
    · rw [hf2, part_zero]
    clear hM ld2 len2 hf0 hf2 hf3 t1 t5 t6 t7
    rintro m T S' n ⟨k, rfl, hk, t1, t5, t6, t7, t33, t34, fl, hM, hf0, hf2, hf3⟩
    repeat (with_reducible first | refine optR_go ?_ | refine optP_go ?_ | refine boxP_go ?_ | refine mkP_pair ?_ | refine mkP_go ?_ | refine joinL_go ?_ | refine joinV_go ?_ | refine joinA_go ?_ | refine joinQ_go ?_ | refine letN_go ?_ | refine boxAtP_go ?_ | refine mkAtP_pair ?_ | refine mkAtP_go ?_ | refine guardP_tt ?_ | refine guardP_tf ?_ | refine guardP_ft ?_ | refine guardP_ff ?_ | refine guardP_un ?_ | refine boolP_tt ?_ | refine boolP_ff ?_ | refine invokeP_go ?_ | refine resP_go ?_ | refine resP_go' ?_ | ((conv => arg 1; simp (disch := omega) only [setTF_eq, argsTF, nth_eq, ld1_new, ld1_old, ld_2, ld_3, ld_4, ld_5, ld_7, wr_1, wr_2, wr_3, wr_4, wr_5, wr_7, wget_same, wget_ne, ofList_get, AV.cells, xOff_ptr, xNil_ptr, xExt_tuple, notV, ib_lss, ib_gtr, ib_leq, ib_geq, ib_eql, ib_neq, List.getElem?_cons_zero, List.getElem?_cons_succ, List.length_cons, List.length_nil, Option.bind_some, Nat.zero_add, Nat.add_zero, if_true, if_false, reduceIte, Nat.reduceEqDiff, Nat.reduceAdd, Nat.reduceMul, Nat.reduceLT, Nat.reduceBEq, decide_true, decide_false, Bool.not_true, Bool.not_false, t33, t34]); (first | refine optR_go ?_ | refine optP_go ?_ | refine boolP_tt ?_ | refine boolP_ff ?_)) | dsimp only)
    refine joinH_go ?_
    refine boolP_dec (fun hlt => ?_) (fun hge => ?_)
    · have hlt : k < ms.length := by omega
      have hxk : ms[k]? = some ms[k] := List.getElem?_eq_getElem hlt
      have hvk : (brs vr.length ms)[k]? = some (brW vr.length ms[k]) := by simp [brs, hxk]
      generalize ms[k] = x at hxk hvk
      have hle := hM.ext.le
      have ld2 := hM.ld (d := 2) (by decide)
      have hpa := part_at (f := mrow) (g := mrow) (vs := brs vr.length ms) hxk
      have hal := part_len (f := mrow) (vs := brs vr.length ms) (k := k) (sz := 5) (by simp [brs]; omega) (fun w => rfl)
      have e1 : aIBin .add (.int .i64 (k : Int)) (.int .i64 1) = some (.int .i64 ((k + 1 : Nat) : Int)) := by rw [ib_add (by omega) (by omega)]; rfl
      obtain ⟨bb, hbb, hix, _⟩ := hM.at (d := 2) (i := k) (by decide) (by rw [hf2, hpa]; simp only [List.length_append, hal]; simp [szs, mrow]) .i64
      have hix : ixSV 5 (s 2) (.int .i64 (k : Int)) = some (.ptr bb (k * 5)) := hix
      repeat (with_reducible first | refine optR_go ?_ | refine optP_go ?_ | refine boxP_go ?_ | refine mkP_pair ?_ | refine mkP_go ?_ | refine joinH_go ?_ | refine joinL_go ?_ | refine joinV_go ?_ | refine joinA_go ?_ | refine joinQ_go ?_ | refine letN_go ?_ | refine boxAtP_go ?_ | refine mkAtP_pair ?_ | refine mkAtP_go ?_ | refine guardP_tt ?_ | refine guardP_tf ?_ | refine guardP_ft ?_ | refine guardP_ff ?_ | refine guardP_un ?_ | refine boolP_tt ?_ | refine boolP_ff ?_ | refine invokeP_go ?_ | refine resP_go ?_ | refine resP_go' ?_ | ((conv => arg 1; simp (disch := omega) only [setTF_eq, argsTF, nth_eq, ld1_new, ld1_old, ld_2, ld_3, ld_4, ld_5, ld_7, wr_1, wr_2, wr_3, wr_4, wr_5, wr_7, wget_same, wget_ne, ofList_get, AV.cells, xOff_ptr, xNil_ptr, xExt_tuple, notV, ib_lss, ib_gtr, ib_leq, ib_geq, ib_eql, ib_neq, List.getElem?_cons_zero, List.getElem?_cons_succ, List.length_cons, List.length_nil, Option.bind_some, Nat.zero_add, Nat.add_zero, if_true, if_false, reduceIte, Nat.reduceEqDiff, Nat.reduceAdd, Nat.reduceMul, Nat.reduceLT, Nat.reduceBEq, decide_true, decide_false, Bool.not_true, Bool.not_false, t5, t6, t7, t34, ld2, hix]); (first | refine optR_go ?_ | refine optP_go ?_ | refine boolP_tt ?_ | refine boolP_ff ?_)) | dsimp only)
      have hbr := (hM.more (by omega : n ≤ n + 17)).bring (w := x) (below := vr.length) (p := 3) hn (by decide) hbb (by omega) (hf2.trans hpa) rfl rfl
      rw [hal] at hbr
      refine hbr.mono ?_ (fun _ _ _ h => h.elim)
      rintro u S4 n4 ⟨rfl, hM4⟩
      repeat (with_reducible first | refine optR_go ?_ | refine optP_go ?_ | refine boxP_go ?_ | refine mkP_pair ?_ | refine mkP_go ?_ | refine joinH_go ?_ | refine joinL_go ?_ | refine joinV_go ?_ | refine joinA_go ?_ | refine joinQ_go ?_ | refine letN_go ?_ | refine boxAtP_go ?_ | refine mkAtP_pair ?_ | refine mkAtP_go ?_ | refine guardP_tt ?_ | refine guardP_tf ?_ | refine guardP_ft ?_ | refine guardP_ff ?_ | refine guardP_un ?_ | refine boolP_tt ?_ | refine boolP_ff ?_ | refine invokeP_go ?_ | refine resP_go ?_ | refine resP_go' ?_ | ((conv => arg 1; simp (disch := omega) only [setTF_eq, argsTF, nth_eq, ld1_new, ld1_old, ld_2, ld_3, ld_4, ld_5, ld_7, wr_1, wr_2, wr_3, wr_4, wr_5, wr_7, wget_same, wget_ne, ofList_get, AV.cells, xOff_ptr, xNil_ptr, xExt_tuple, notV, ib_lss, ib_gtr, ib_leq, ib_geq, ib_eql, ib_neq, List.getElem?_cons_zero, List.getElem?_cons_succ, List.length_cons, List.length_nil, Option.bind_some, Nat.zero_add, Nat.add_zero, if_true, if_false, reduceIte, Nat.reduceEqDiff, Nat.reduceAdd, Nat.reduceMul, Nat.reduceLT, Nat.reduceBEq, decide_true, decide_false, Bool.not_true, Bool.not_false, t34, e1]); (first | refine optR_go ?_ | refine optP_go ?_ | refine boolP_tt ?_ | refine boolP_ff ?_)) | dsimp only)
      refine ⟨ms.length - (k + 1), by omega, k + 1, rfl, by omega, ?_, ?_, ?_, ?_, ?_, ?_, _, hM4, ?_, ?_, ?_⟩
      · simp only [setTF_eq, reduceIte, Nat.reduceEqDiff]; exact t1
      · simp only [setTF_eq, reduceIte, Nat.reduceEqDiff]; exact t5
      · simp only [setTF_eq, reduceIte, Nat.reduceEqDiff]; exact t6
      · simp only [setTF_eq, reduceIte, Nat.reduceEqDiff]; exact t7
      · simp only [setTF_eq, reduceIte, Nat.reduceEqDiff]; exact t33
      · simp only [setTF_eq, reduceIte, Nat.reduceEqDiff]
      · exact hf0
      · rw [updf_eq]; exact part_next (f := mrow) (g := mrow) hvk
      · exact hf3
    · have hk : k = ms.length := by omega
      repeat (with_reducible first | refine optR_go ?_ | refine optP_go ?_ | refine boxP_go ?_ | refine mkP_pair ?_ | refine mkP_go ?_ | refine joinL_go ?_ | refine joinV_go ?_ | refine joinA_go ?_ | refine joinQ_go ?_ | refine letN_go ?_ | refine boxAtP_go ?_ | refine mkAtP_pair ?_ | refine mkAtP_go ?_ | refine guardP_tt ?_ | refine guardP_tf ?_ | refine guardP_ft ?_ | refine guardP_ff ?_ | refine guardP_un ?_ | refine boolP_tt ?_ | refine boolP_ff ?_ | refine invokeP_go ?_ | refine resP_go ?_ | refine resP_go' ?_ | ((conv => arg 1; simp (disch := omega) only [setTF_eq, argsTF, nth_eq, ld1_new, ld1_old, ld_2, ld_3, ld_4, ld_5, ld_7, wr_1, wr_2, wr_3, wr_4, wr_5, wr_7, wget_same, wget_ne, ofList_get, AV.cells, xOff_ptr, xNil_ptr, xExt_tuple, notV, ib_lss, ib_gtr, ib_leq, ib_geq, ib_eql, ib_neq, List.getElem?_cons_zero, List.getElem?_cons_succ, List.length_cons, List.length_nil, Option.bind_some, Nat.zero_add, Nat.add_zero, if_true, if_false, reduceIte, Nat.reduceEqDiff, Nat.reduceAdd, Nat.reduceMul, Nat.reduceLT, Nat.reduceBEq, decide_true, decide_false, Bool.not_true, Bool.not_false]); (first | refine optR_go ?_ | refine optP_go ?_ | refine boolP_tt ?_ | refine boolP_ff ?_)) | dsimp only)
      refine hj _ _ _ ⟨?_, ?_, ?_, ?_, fl, hM, hf0, ?_, hf3⟩
      · simp only [setTF_eq, reduceIte, Nat.reduceEqDiff]; exact t1
      · simp only [setTF_eq, reduceIte, Nat.reduceEqDiff]; exact t5
      · simp only [setTF_eq, reduceIte, Nat.reduceEqDiff]; exact t6
      · simp only [setTF_eq, reduceIte, Nat.reduceEqDiff]; exact t7
      · rw [hf2]; exact part_end (by simp [brs]; omega) (by omega)
  clear hM ld2 len2 hf0 hf2 hf3 t1 t5 t6 t7
  rintro T S2 n2 ⟨t1, t5, t6, t7, fl, hM, hf0, hf2, hf3⟩
  have ld2 := hM.ld (d := 3) (by decide)
  have len2 := hM.len (d := 3) (t := 29) (m := fs.length) (by decide) (und29 G n0) (by rw [hf3, len3]; rfl)
  repeat (with_reducible first | refine optR_go ?_ | refine optP_go ?_ | refine boxP_go ?_ | refine mkP_pair ?_ | refine mkP_go ?_ | refine joinL_go ?_ | refine joinV_go ?_ | refine joinA_go ?_ | refine joinQ_go ?_ | refine letN_go ?_ | refine boxAtP_go ?_ | refine mkAtP_pair ?_ | refine mkAtP_go ?_ | refine guardP_tt ?_ | refine guardP_tf ?_ | refine guardP_ft ?_ | refine guardP_ff ?_ | refine guardP_un ?_ | refine boolP_tt ?_ | refine boolP_ff ?_ | refine invokeP_go ?_ | refine resP_go ?_ | refine resP_go' ?_ | ((conv => arg 1; simp (disch := omega) only [setTF_eq, argsTF, nth_eq, ld1_new, ld1_old, ld_2, ld_3, ld_4, ld_5, ld_7, wr_1, wr_2, wr_3, wr_4, wr_5, wr_7, wget_same, wget_ne, ofList_get, AV.cells, xOff_ptr, xNil_ptr, xExt_tuple, notV, ib_lss, ib_gtr, ib_leq, ib_geq, ib_eql, ib_neq, List.getElem?_cons_zero, List.getElem?_cons_succ, List.length_cons, List.length_nil, Option.bind_some, Nat.zero_add, Nat.add_zero, if_true, if_false, reduceIte, Nat.reduceEqDiff, Nat.reduceAdd, Nat.reduceMul, Nat.reduceLT, Nat.reduceBEq, decide_true, decide_false, Bool.not_true, Bool.not_false, t5, ld2, len2]); (first | refine optR_go ?_ | refine optP_go ?_ | refine boolP_tt ?_ | refine boolP_ff ?_)) | dsimp only)
  refine joinH_of (fun T S' n => T 1 = some wv ∧ T 5 = some (.ptr nx 0) ∧ ∃ fl, Mf G n0 S nx s hb fl S' n ∧ fl 0 = ((br3 vr).map vrow).flatten ∧ fl 2 = ((brs vr.length ms).map mrow).flatten ∧ fl 3 = ((brs vr.length fs).map frow).flatten) (fun j hj => ?_) ?_
  · refine loopP_go (fun m T S' n => ∃ k : Nat, m = fs.length - k ∧ k ≤ fs.length ∧ T 1 = some wv ∧ T 5 = some (.ptr nx 0) ∧ T 6 = some (.int .i64 (vr.length : Int)) ∧ T 7 = some (.func (.func 6) [] []) ∧ T 93 = some (.int .i64 (fs.length : Int)) ∧ T 94 = some (.int .i64 (k : Int)) ∧
        ∃ fl, Mf G n0 S nx s hb fl S' n ∧ fl 0 = ((br3 vr).map vrow).flatten ∧ fl 2 = ((brs vr.length ms).map mrow).flatten ∧ fl 3 = part frow frow (brs vr.length fs) fs k) fs.length ⟨0, by omega, by omega, ?_, ?_, ?_, ?_, ?_, ?_, _, hM, hf0, hf2, ?_⟩ ?_
    · simp only [setTF_eq, reduceIte, Nat.reduceEqDiff]; exact t1
    · simp only [setTF_eq, reduceIte, Nat.reduceEqDiff]; exact t5
    · simp only [setTF_eq, reduceIte, Nat.reduceEqDiff]; exact t6
    · simp only [setTF_eq, reduceIte, Nat.reduceEqDiff]; exact t7
    · simp only [setTF_eq, reduceIte, Nat.reduceEqDiff]
    · simp only [setTF_eq, reduceIte, Nat.reduceEqDiff]; rfl
    · rw [hf3, part_zero]
    clear hM ld2 len2 hf0 hf2 hf3 t1 t5 t6 t7
    rintro m T S' n ⟨k, rfl, hk, t1, t5, t6, t7, t33, t34, fl, hM, hf0, hf2, hf3⟩
    repeat (with_reducible first | refine optR_go ?_ | refine optP_go ?_ | refine boxP_go ?_ | refine mkP_pair ?_ | refine mkP_go ?_ | refine joinL_go ?_ | refine joinV_go ?_ | refine joinA_go ?_ | refine joinQ_go ?_ | refine letN_go ?_ | refine boxAtP_go ?_ | refine mkAtP_pair ?_ | refine mkAtP_go ?_ | refine guardP_tt ?_ | refine guardP_tf ?_ | refine guardP_ft ?_ | refine guardP_ff ?_ | refine guardP_un ?_ | refine boolP_tt ?_ | refine boolP_ff ?_ | refine invokeP_go ?_ | refine resP_go ?_ | refine resP_go' ?_ | ((conv => arg 1; simp (disch := omega) only [setTF_eq, argsTF, nth_eq, ld1_new, ld1_old, ld_2, ld_3, ld_4, ld_5, ld_7, wr_1, wr_2, wr_3, wr_4, wr_5, wr_7, wget_same, wget_ne, ofList_get, AV.cells, xOff_ptr, xNil_ptr, xExt_tuple, notV, ib_lss, ib_gtr, ib_leq, ib_geq, ib_eql, ib_neq, List.getElem?_cons_zero, List.getElem?_cons_succ, List.length_cons, List.length_nil, Option.bind_some, Nat.zero_add, Nat.add_zero, if_true, if_false, reduceIte, Nat.reduceEqDiff, Nat.reduceAdd, Nat.reduceMul, Nat.reduceLT, Nat.reduceBEq, decide_true, decide_false, Bool.not_true, Bool.not_false, t33, t34]); (first | refine optR_go ?_ | refine optP_go ?_ | refine boolP_tt ?_ | refine boolP_ff ?_)) | dsimp only)
    refine joinH_go ?_
    refine boolP_dec (fun hlt => ?_) (fun hge => ?_)
    · have hlt : k < fs.length := by omega
      have hxk : fs[k]? = some fs[k] := List.getElem?_eq_getElem hlt
      have hvk : (brs vr.length fs)[k]? = some (brW vr.length fs[k]) := by simp [brs, hxk]
      generalize fs[k] = x at hxk hvk
      have hle := hM.ext.le
      have ld2 := hM.ld (d := 3) (by decide)
      have hpa := part_at (f := frow) (g := frow) (vs := brs vr.length fs) hxk
      have hal := part_len (f := frow) (vs := brs vr.length fs) (k := k) (sz := 3) (by simp [brs]; omega) (fun w => rfl)
      have e1 : aIBin .add (.int .i64 (k : Int)) (.int .i64 1) = some (.int .i64 ((k + 1 : Nat) : Int)) := by rw [ib_add (by omega) (by omega)]; rfl
      obtain ⟨bb, hbb, hix, _⟩ := hM.at (d := 3) (i := k) (by decide) (by rw [hf3, hpa]; simp only [List.length_append, hal]; simp [szs, frow]) .i64
      have hix : ixSV 3 (s 3) (.int .i64 (k : Int)) = some (.ptr bb (k * 3)) := hix
      repeat (with_reducible first | refine optR_go ?_ | refine optP_go ?_ | refine boxP_go ?_ | refine mkP_pair ?_ | refine mkP_go ?_ | refine joinH_go ?_ | refine joinL_go ?_ | refine joinV_go ?_ | refine joinA_go ?_ | refine joinQ_go ?_ | refine letN_go ?_ | refine boxAtP_go ?_ | refine mkAtP_pair ?_ | refine mkAtP_go ?_ | refine guardP_tt ?_ | refine guardP_tf ?_ | refine guardP_ft ?_ | refine guardP_ff ?_ | refine guardP_un ?_ | refine boolP_tt ?_ | refine boolP_ff ?_ | refine invokeP_go ?_ | refine resP_go ?_ | refine resP_go' ?_ | ((conv => arg 1; simp (disch := omega) only [setTF_eq, argsTF, nth_eq, ld1_new, ld1_old, ld_2, ld_3, ld_4, ld_5, ld_7, wr_1, wr_2, wr_3, wr_4, wr_5, wr_7, wget_same, wget_ne, ofList_get, AV.cells, xOff_ptr, xNil_ptr, xExt_tuple, notV, ib_lss, ib_gtr, ib_leq, ib_geq, ib_eql, ib_neq, List.getElem?_cons_zero, List.getElem?_cons_succ, List.length_cons, List.length_nil, Option.bind_some, Nat.zero_add, Nat.add_zero, if_true, if_false, reduceIte, Nat.reduceEqDiff, Nat.reduceAdd, Nat.reduceMul, Nat.reduceLT, Nat.reduceBEq, decide_true, decide_false, Bool.not_true, Bool.not_false, t5, t6, t7, t34, ld2, hix]); (first | refine optR_go ?_ | refine optP_go ?_ | refine boolP_tt ?_ | refine boolP_ff ?_)) | dsimp only)
      have hbr := (hM.more (by omega : n ≤ n + 17)).bring (w := x) (below := vr.length) (p := 1) hn (by decide) hbb (by omega) (hf3.trans hpa) rfl rfl
      rw [hal] at hbr
      refine hbr.mono ?_ (fun _ _ _ h => h.elim)
      rintro u S4 n4 ⟨rfl, hM4⟩
      repeat (with_reducible first | refine optR_go ?_ | refine optP_go ?_ | refine boxP_go ?_ | refine mkP_pair ?_ | refine mkP_go ?_ | refine joinH_go ?_ | refine joinL_go ?_ | refine joinV_go ?_ | refine joinA_go ?_ | refine joinQ_go ?_ | refine letN_go ?_ | refine boxAtP_go ?_ | refine mkAtP_pair ?_ | refine mkAtP_go ?_ | refine guardP_tt ?_ | refine guardP_tf ?_ | refine guardP_ft ?_ | refine guardP_ff ?_ | refine guardP_un ?_ | refine boolP_tt ?_ | refine boolP_ff ?_ | refine invokeP_go ?_ | refine resP_go ?_ | refine resP_go' ?_ | ((conv => arg 1; simp (disch := omega) only [setTF_eq, argsTF, nth_eq, ld1_new, ld1_old, ld_2, ld_3, ld_4, ld_5, ld_7, wr_1, wr_2, wr_3, wr_4, wr_5, wr_7, wget_same, wget_ne, ofList_get, AV.cells, xOff_ptr, xNil_ptr, xExt_tuple, notV, ib_lss, ib_gtr, ib_leq, ib_geq, ib_eql, ib_neq, List.getElem?_cons_zero, List.getElem?_cons_succ, List.length_cons, List.length_nil, Option.bind_some, Nat.zero_add, Nat.add_zero, if_true, if_false, reduceIte, Nat.reduceEqDiff, Nat.reduceAdd, Nat.reduceMul, Nat.reduceLT, Nat.reduceBEq, decide_true, decide_false, Bool.not_true, Bool.not_false, t34, e1]); (first | refine optR_go ?_ | refine optP_go ?_ | refine boolP_tt ?_ | refine boolP_ff ?_)) | dsimp only)
      refine ⟨fs.length - (k + 1), by omega, k + 1, rfl, by omega, ?_, ?_, ?_, ?_, ?_, ?_, _, hM4, ?_, ?_, ?_⟩
      · simp only [setTF_eq, reduceIte, Nat.reduceEqDiff]; exact t1
      · simp only [setTF_eq, reduceIte, Nat.reduceEqDiff]; exact t5
      · simp only [setTF_eq, reduceIte, Nat.reduceEqDiff]; exact t6
      · simp only [setTF_eq, reduceIte, Nat.reduceEqDiff]; exact t7
      · simp only [setTF_eq, reduceIte, Nat.reduceEqDiff]; exact t33
      · simp only [setTF_eq, reduceIte, Nat.reduceEqDiff]
      · exact hf0
      · exact hf2
      · rw [updf_eq]; exact part_next (f := frow) (g := frow) hvk
    · have hk : k = fs.length := by omega
      repeat (with_reducible first | refine optR_go ?_ | refine optP_go ?_ | refine boxP_go ?_ | refine mkP_pair ?_ | refine mkP_go ?_ | refine joinL_go ?_ | refine joinV_go ?_ | refine joinA_go ?_ | refine joinQ_go ?_ | refine letN_go ?_ | refine boxAtP_go ?_ | refine mkAtP_pair ?_ | refine mkAtP_go ?_ | refine guardP_tt ?_ | refine guardP_tf ?_ | refine guardP_ft ?_ | refine guardP_ff ?_ | refine guardP_un ?_ | refine boolP_tt ?_ | refine boolP_ff ?_ | refine invokeP_go ?_ | refine resP_go ?_ | refine resP_go' ?_ | ((conv => arg 1; simp (disch := omega) only [setTF_eq, argsTF, nth_eq, ld1_new, ld1_old, ld_2, ld_3, ld_4, ld_5, ld_7, wr_1, wr_2, wr_3, wr_4, wr_5, wr_7, wget_same, wget_ne, ofList_get, AV.cells, xOff_ptr, xNil_ptr, xExt_tuple, notV, ib_lss, ib_gtr, ib_leq, ib_geq, ib_eql, ib_neq, List.getElem?_cons_zero, List.getElem?_cons_succ, List.length_cons, List.length_nil, Option.bind_some, Nat.zero_add, Nat.add_zero, if_true, if_false, reduceIte, Nat.reduceEqDiff, Nat.reduceAdd, Nat.reduceMul, Nat.reduceLT, Nat.reduceBEq, decide_true, decide_false, Bool.not_true, Bool.not_false]); (first | refine optR_go ?_ | refine optP_go ?_ | refine boolP_tt ?_ | refine boolP_ff ?_)) | dsimp only)
      refine hj _ _ _ ⟨?_, ?_, fl, hM, hf0, hf2, ?_⟩
      · simp only [setTF_eq, reduceIte, Nat.reduceEqDiff]; exact t1
      · simp only [setTF_eq, reduceIte, Nat.reduceEqDiff]; exact t5
      · rw [hf3]; exact part_end (by simp [brs]; omega) (by omega)
  clear hM ld2 len2 hf0 hf2 hf3 t1 t5 t6 t7
  rintro T S2 n2 ⟨t1, t5, fl, hM, hf0, hf2, hf3⟩
  repeat (with_reducible first | refine optR_go ?_ | refine optP_go ?_ | refine boxP_go ?_ | refine mkP_pair ?_ | refine mkP_go ?_ | refine joinL_go ?_ | refine joinV_go ?_ | refine joinA_go ?_ | refine joinQ_go ?_ | refine letN_go ?_ | refine boxAtP_go ?_ | refine mkAtP_pair ?_ | refine mkAtP_go ?_ | refine guardP_tt ?_ | refine guardP_tf ?_ | refine guardP_ft ?_ | refine guardP_ff ?_ | refine guardP_un ?_ | refine boolP_tt ?_ | refine boolP_ff ?_ | refine invokeP_go ?_ | refine resP_go ?_ | refine resP_go' ?_ | ((conv => arg 1; simp (disch := omega) only [setTF_eq, argsTF, nth_eq, ld1_new, ld1_old, ld_2, ld_3, ld_4, ld_5, ld_7, wr_1, wr_2, wr_3, wr_4, wr_5, wr_7, wget_same, wget_ne, ofList_get, AV.cells, xOff_ptr, xNil_ptr, xExt_tuple, notV, ib_lss, ib_gtr, ib_leq, ib_geq, ib_eql, ib_neq, List.getElem?_cons_zero, List.getElem?_cons_succ, List.length_cons, List.length_nil, Option.bind_some, Nat.zero_add, Nat.add_zero, if_true, if_false, reduceIte, Nat.reduceEqDiff, Nat.reduceAdd, Nat.reduceMul, Nat.reduceLT, Nat.reduceBEq, decide_true, decide_false, Bool.not_true, Bool.not_false, t5]); (first | refine optR_go ?_ | refine optP_go ?_ | refine boolP_tt ?_ | refine boolP_ff ?_)) | dsimp only)
  have hle2 := hM.ext.le
  have hltn := hM.lt
  have hE02 := hM.ext
  have hnm : ∃ bv bm bf, bv < n2 ∧ NM (cf G n0) S2 n2 nx (s 0) (s 2) (s 3) bv bm bf (br3 vr) (brs vr.length ms) (brs vr.length fs) := by
    obtain ⟨bv, h1, h2⟩ := hM.rda (d := 0) (by decide) (und26 G n0) hf0 (fun r hr => by obtain ⟨_, _, rfl⟩ := List.mem_map.1 hr; rfl) (by simp [br3]; omega)
    obtain ⟨bm, h3, h4⟩ := hM.rda (d := 2) (by decide) (und28 G n0) hf2 (fun r hr => by obtain ⟨_, _, rfl⟩ := List.mem_map.1 hr; rfl) (by simp [brs]; omega)
    obtain ⟨bf, h5, h6⟩ := hM.rda (d := 3) (by decide) (und29 G n0) hf3 (fun r hr => by obtain ⟨_, _, rfl⟩ := List.mem_map.1 hr; rfl) (by simp [brs]; omega)
    exact ⟨bv, bm, bf, h1, hltn, hM.ld (by decide), hM.ld (by decide), hM.ld (by decide), h2, h4, h6⟩
  obtain ⟨bv, bm, bf, hbv, hnm⟩ := hnm
  refine (of_call (br3_desc vr) (by omega) hnm hbv (by simp [br3]; omega) (by simp [brs]; omega) (by simp [brs]; omega) (brs_may vr ms) (brs_may vr fs)).mono ?_ (fun _ _ _ h => h.elim)
  rintro u S3 n3 ⟨c, sl, bL, L, rfl, hc3, hcl, hra, hF, hE3⟩
  have hle3 := hE3.le
  have hlen := hra.len
  rw [List.length_map] at hlen
  have hL0 : L.length ≠ 0 := fun e => by have := hF.base; rw [List.getElem?_eq_none (by omega)] at this; cases this
  have d0 : decide ((L.length : Int) = 0) = false := by simpa using hL0
  obtain ⟨wb, wo, wv', hcut, hrdu⟩ := hw.cut
  have hwl := hw.len
  have hnm3 := hnm
  clear hM fl hf0 hf2 hf3
  have dz : decide ((0 : Int) ≠ 0) = false := rfl
  have dm : decide ((-1 : Int) ≠ -1) = false := rfl
  repeat (with_reducible first | refine optR_go ?_ | refine optP_go ?_ | refine boxP_go ?_ | refine mkP_pair ?_ | refine mkP_go ?_ | refine joinL_go ?_ | refine joinV_go ?_ | refine joinA_go ?_ | refine joinQ_go ?_ | refine letN_go ?_ | refine boxAtP_go ?_ | refine mkAtP_pair ?_ | refine mkAtP_go ?_ | refine guardP_tt ?_ | refine guardP_tf ?_ | refine guardP_ft ?_ | refine guardP_ff ?_ | refine guardP_un ?_ | refine boolP_tt ?_ | refine boolP_ff ?_ | refine invokeP_go ?_ | refine resP_go ?_ | refine resP_go' ?_ | ((conv => arg 1; simp (disch := omega) only [setTF_eq, argsTF, nth_eq, ld1_new, ld1_old, ld_2, ld_3, ld_4, ld_5, ld_7, wr_1, wr_2, wr_3, wr_4, wr_5, wr_7, wget_same, wget_ne, ofList_get, AV.cells, xOff_ptr, xNil_ptr, xExt_tuple, notV, ib_lss, ib_gtr, ib_leq, ib_geq, ib_eql, ib_neq, List.getElem?_cons_zero, List.getElem?_cons_succ, List.length_cons, List.length_nil, Option.bind_some, Nat.zero_add, Nat.add_zero, if_true, if_false, reduceIte, Nat.reduceEqDiff, Nat.reduceAdd, Nat.reduceMul, Nat.reduceLT, Nat.reduceBEq, decide_true, decide_false, Bool.not_true, Bool.not_false, eq46, hcl, hlen, d0, dz]); (first | refine optR_go ?_ | refine optP_go ?_ | refine boolP_tt ?_ | refine boolP_ff ?_)) | dsimp only)
  refine joinH_go ?_
  repeat (with_reducible first | refine optR_go ?_ | refine optP_go ?_ | refine boxP_go ?_ | refine mkP_pair ?_ | refine mkP_go ?_ | refine joinL_go ?_ | refine joinV_go ?_ | refine joinA_go ?_ | refine joinQ_go ?_ | refine letN_go ?_ | refine boxAtP_go ?_ | refine mkAtP_pair ?_ | refine mkAtP_go ?_ | refine guardP_tt ?_ | refine guardP_tf ?_ | refine guardP_ft ?_ | refine guardP_ff ?_ | refine guardP_un ?_ | refine boolP_tt ?_ | refine boolP_ff ?_ | refine invokeP_go ?_ | refine resP_go ?_ | refine resP_go' ?_ | ((conv => arg 1; simp (disch := omega) only [setTF_eq, argsTF, nth_eq, ld1_new, ld1_old, ld_2, ld_3, ld_4, ld_5, ld_7, wr_1, wr_2, wr_3, wr_4, wr_5, wr_7, wget_same, wget_ne, ofList_get, AV.cells, xOff_ptr, xNil_ptr, xExt_tuple, notV, ib_lss, ib_gtr, ib_leq, ib_geq, ib_eql, ib_neq, List.getElem?_cons_zero, List.getElem?_cons_succ, List.length_cons, List.length_nil, Option.bind_some, Nat.zero_add, Nat.add_zero, if_true, if_false, reduceIte, Nat.reduceEqDiff, Nat.reduceAdd, Nat.reduceMul, Nat.reduceLT, Nat.reduceBEq, decide_true, decide_false, Bool.not_true, Bool.not_false, eq46, hcl, hlen, d0, dz, t1, hwl, min30, hcut]); (first | refine optR_go ?_ | refine optP_go ?_ | refine boolP_tt ?_ | refine boolP_ff ?_)) | dsimp only)
  have hru3 : RdU (cf G n0) S3 n3 wb wo wv' (xs.take 30) := ((hrdu.ext hE02).ext (hE3.more' (by omega))).lift (by omega)
  refine (enabled_call (by omega) hc3 hcl hra hru3 hF.parOk hF.many).mono ?_ (fun _ _ _ h => h.elim)
  rintro ev S4 n4 ⟨bs, bE, hbl, hEn, hrb, hE4⟩
  have hle4 := hE4.le
  have hcl4 : aLd1 (cf G n0) S4 (.ptr c 0) = some sl := by rw [hE4.ld1 _ _ hc3]; exact hcl
  have hra4 := (hra.ext hE4).lift (by omega : n3 ≤ n4)
  have hnm4 := hnm
  have hlb := hrb.len
  rw [List.length_map, hbl] at hlb
  have dLL : decide ((L.length : Int) ≠ (L.length : Int)) = false := by simp
  have hbs : ∀ (k : Nat) x, L[k]? = some x → bs[k]? = some (enVal (xs.take 30) bs x) := fun k x hx => hEn k x (by have := (List.getElem?_eq_some_iff.1 hx).1; omega) hx
  have hb0 := hbs 0 _ hF.base
  rw [show enVal (xs.take 30) bs ⟨-1, false, -1⟩ = true from rfl] at hb0
  have hrow : ∀ (k : Nat) x, L[k]? = some x → (L.map crow)[k]? = some (crow x) := fun k x hx => by rw [List.getElem?_map, hx]; rfl
  have hbrow : ∀ (k : Nat) x, bs[k]? = some x → (bs.map fun x => [AV.bool x])[k]? = some [AV.bool x] := fun k x hx => by rw [List.getElem?_map, hx]; rfl
  have ie0 : ixSV 1 ev (.int .i64 0) = some (.ptr bE 0) := hrb.ix 0 (by rw [List.length_map]; omega)
  have ce0 : aLd1 (cf G n0) S4 (.ptr bE 0) = some (.bool true) := hrb.cell 0 _ 0 _ (hbrow 0 _ hb0) rfl
  have ic0 : ixSV 3 sl (.int .i64 0) = some (.ptr bL 0) := hra.ix 0 (by rw [List.length_map]; omega)
  have cc0 : aLd1 (cf G n0) S4 (.ptr bL 0) = some (.int .i64 (-1)) := hra4.cell 0 _ 0 _ (hrow 0 _ hF.base) rfl
  have cc2 : aLd1 (cf G n0) S4 (.ptr bL 2) = some (.int .i64 (-1)) := hra4.cell 0 _ 2 _ (hrow 0 _ hF.base) rfl
  repeat (with_reducible first | refine optR_go ?_ | refine optP_go ?_ | refine boxP_go ?_ | refine mkP_pair ?_ | refine mkP_go ?_ | refine joinL_go ?_ | refine joinV_go ?_ | refine joinA_go ?_ | refine joinQ_go ?_ | refine letN_go ?_ | refine boxAtP_go ?_ | refine mkAtP_pair ?_ | refine mkAtP_go ?_ | refine guardP_tt ?_ | refine guardP_tf ?_ | refine guardP_ft ?_ | refine guardP_ff ?_ | refine guardP_un ?_ | refine boolP_tt ?_ | refine boolP_ff ?_ | refine invokeP_go ?_ | refine resP_go ?_ | refine resP_go' ?_ | ((conv => arg 1; simp (disch := omega) only [setTF_eq, argsTF, nth_eq, ld1_new, ld1_old, ld_2, ld_3, ld_4, ld_5, ld_7, wr_1, wr_2, wr_3, wr_4, wr_5, wr_7, wget_same, wget_ne, ofList_get, AV.cells, xOff_ptr, xNil_ptr, xExt_tuple, notV, ib_lss, ib_gtr, ib_leq, ib_geq, ib_eql, ib_neq, List.getElem?_cons_zero, List.getElem?_cons_succ, List.length_cons, List.length_nil, Option.bind_some, Nat.zero_add, Nat.add_zero, if_true, if_false, reduceIte, Nat.reduceEqDiff, Nat.reduceAdd, Nat.reduceMul, Nat.reduceLT, Nat.reduceBEq, decide_true, decide_false, Bool.not_true, Bool.not_false, hlb, hcl4, hlen, dLL, ie0, ce0, ic0, cc0, cc2, dm]); (first | refine optR_go ?_ | refine optP_go ?_ | refine boolP_tt ?_ | refine boolP_ff ?_)) | dsimp only)
  refine joinH_go ?_
  repeat (with_reducible first | refine optR_go ?_ | refine optP_go ?_ | refine boxP_go ?_ | refine mkP_pair ?_ | refine mkP_go ?_ | refine joinL_go ?_ | refine joinV_go ?_ | refine joinA_go ?_ | refine joinQ_go ?_ | refine letN_go ?_ | refine boxAtP_go ?_ | refine mkAtP_pair ?_ | refine mkAtP_go ?_ | refine guardP_tt ?_ | refine guardP_tf ?_ | refine guardP_ft ?_ | refine guardP_ff ?_ | refine guardP_un ?_ | refine boolP_tt ?_ | refine boolP_ff ?_ | refine invokeP_go ?_ | refine resP_go ?_ | refine resP_go' ?_ | ((conv => arg 1; simp (disch := omega) only [setTF_eq, argsTF, nth_eq, ld1_new, ld1_old, ld_2, ld_3, ld_4, ld_5, ld_7, wr_1, wr_2, wr_3, wr_4, wr_5, wr_7, wget_same, wget_ne, ofList_get, AV.cells, xOff_ptr, xNil_ptr, xExt_tuple, notV, ib_lss, ib_gtr, ib_leq, ib_geq, ib_eql, ib_neq, List.getElem?_cons_zero, List.getElem?_cons_succ, List.length_cons, List.length_nil, Option.bind_some, Nat.zero_add, Nat.add_zero, if_true, if_false, reduceIte, Nat.reduceEqDiff, Nat.reduceAdd, Nat.reduceMul, Nat.reduceLT, Nat.reduceBEq, decide_true, decide_false, Bool.not_true, Bool.not_false, hcl4, hlen]); (first | refine optR_go ?_ | refine optP_go ?_ | refine boolP_tt ?_ | refine boolP_ff ?_)) | dsimp only)
  have hsE : ∀ {S' : Tr AObj} {n : Nat}, Exts (cf G n0) S4 n4 S' n → Exts (cf G n0) S nx S' n := fun h => ((hE02.trans hE3).trans hE4).trans h
  refine joinH_of (fun T S' n => T 5 = some (.ptr nx 0) ∧ T 11 = some (.ptr c 0) ∧ Exts (cf G n0) S4 n4 S' n) (fun j hj => ?_) ?_
  · refine loopP_go (fun m T S' n => ∃ k : Nat, m = L.length - k ∧ k ≤ L.length ∧ T 5 = some (.ptr nx 0) ∧ T 11 = some (.ptr c 0) ∧ T 13 = some ev ∧ T 179 = some sl ∧ T 180 = some (.int .i64 (L.length : Int)) ∧ T 181 = some (.int .i64 (k : Int)) ∧ Exts (cf G n0) S4 n4 S' n) L.length ⟨0, by omega, by omega, ?_, ?_, ?_, ?_, ?_, ?_, Exts.refl _ _⟩ ?_
    · simp only [setTF_eq, reduceIte, Nat.reduceEqDiff]; exact t5
    · simp only [setTF_eq, reduceIte, Nat.reduceEqDiff]
    · simp only [setTF_eq, reduceIte, Nat.reduceEqDiff]
    · simp only [setTF_eq, reduceIte, Nat.reduceEqDiff]
    · simp only [setTF_eq, reduceIte, Nat.reduceEqDiff]
    · simp only [setTF_eq, reduceIte, Nat.reduceEqDiff]; rfl
    clear t1 t5
    rintro m T S' n ⟨k, rfl, hk, t5, t11, t13, t179, t180, t181, hE⟩
    repeat (with_reducible first | refine optR_go ?_ | refine optP_go ?_ | refine boxP_go ?_ | refine mkP_pair ?_ | refine mkP_go ?_ | refine joinL_go ?_ | refine joinV_go ?_ | refine joinA_go ?_ | refine joinQ_go ?_ | refine letN_go ?_ | refine boxAtP_go ?_ | refine mkAtP_pair ?_ | refine mkAtP_go ?_ | refine guardP_tt ?_ | refine guardP_tf ?_ | refine guardP_ft ?_ | refine guardP_ff ?_ | refine guardP_un ?_ | refine boolP_tt ?_ | refine boolP_ff ?_ | refine invokeP_go ?_ | refine resP_go ?_ | refine resP_go' ?_ | ((conv => arg 1; simp (disch := omega) only [setTF_eq, argsTF, nth_eq, ld1_new, ld1_old, ld_2, ld_3, ld_4, ld_5, ld_7, wr_1, wr_2, wr_3, wr_4, wr_5, wr_7, wget_same, wget_ne, ofList_get, AV.cells, xOff_ptr, xNil_ptr, xExt_tuple, notV, ib_lss, ib_gtr, ib_leq, ib_geq, ib_eql, ib_neq, List.getElem?_cons_zero, List.getElem?_cons_succ, List.length_cons, List.length_nil, Option.bind_some, Nat.zero_add, Nat.add_zero, if_true, if_false, reduceIte, Nat.reduceEqDiff, Nat.reduceAdd, Nat.reduceMul, Nat.reduceLT, Nat.reduceBEq, decide_true, decide_false, Bool.not_true, Bool.not_false, t180, t181]); (first | refine optR_go ?_ | refine optP_go ?_ | refine boolP_tt ?_ | refine boolP_ff ?_)) | dsimp only)
    refine joinH_go ?_
    refine boolP_dec (fun hlt => ?_) (fun hge => ?_)
    · have hlt : k < L.length := by omega
      have hck : L[k]? = some L[k] := List.getElem?_eq_getElem hlt
      generalize L[k] = ck at hck
      have hle := hE.le
      have e1 : aIBin .add (.int .i64 (k : Int)) (.int .i64 1) = some (.int .i64 ((k + 1 : Nat) : Int)) := by rw [ib_add (by omega) (by have := hF.many; omega)]; rfl
      repeat (with_reducible first | refine optR_go ?_ | refine optP_go ?_ | refine boxP_go ?_ | refine mkP_pair ?_ | refine mkP_go ?_ | refine joinL_go ?_ | refine joinV_go ?_ | refine joinA_go ?_ | refine joinQ_go ?_ | refine letN_go ?_ | refine boxAtP_go ?_ | refine mkAtP_pair ?_ | refine mkAtP_go ?_ | refine guardP_tt ?_ | refine guardP_tf ?_ | refine guardP_ft ?_ | refine guardP_ff ?_ | refine guardP_un ?_ | refine boolP_tt ?_ | refine boolP_ff ?_ | refine invokeP_go ?_ | refine resP_go ?_ | refine resP_go' ?_ | ((conv => arg 1; simp (disch := omega) only [setTF_eq, argsTF, nth_eq, ld1_new, ld1_old, ld_2, ld_3, ld_4, ld_5, ld_7, wr_1, wr_2, wr_3, wr_4, wr_5, wr_7, wget_same, wget_ne, ofList_get, AV.cells, xOff_ptr, xNil_ptr, xExt_tuple, notV, ib_lss, ib_gtr, ib_leq, ib_geq, ib_eql, ib_neq, List.getElem?_cons_zero, List.getElem?_cons_succ, List.length_cons, List.length_nil, Option.bind_some, Nat.zero_add, Nat.add_zero, if_true, if_false, reduceIte, Nat.reduceEqDiff, Nat.reduceAdd, Nat.reduceMul, Nat.reduceLT, Nat.reduceBEq, decide_true, decide_false, Bool.not_true, Bool.not_false, t179, t181]); (first | refine optR_go ?_ | refine optP_go ?_ | refine boolP_tt ?_ | refine boolP_ff ?_)) | dsimp only)
      refine joinH_of (fun T S' n => T 5 = some (.ptr nx 0) ∧ T 11 = some (.ptr c 0) ∧ T 13 = some ev ∧ T 179 = some sl ∧ T 180 = some (.int .i64 (L.length : Int)) ∧ T 181 = some (.int .i64 (k : Int)) ∧ Exts (cf G n0) S4 n4 S' n) (fun j2 hj2 => ?_) ?_
      · have hixk := hra4.ix k (by simpa using hlt)
        have hra' := (hra4.ext hE).lift hle
        have k0 := hra'.cell k _ 0 _ (hrow k _ hck) rfl
        have k1 := hra'.cell k _ 1 _ (hrow k _ hck) rfl
        have k2 := hra'.cell k _ 2 _ (hrow k _ hck) rfl
        rw [Nat.add_zero] at k0
        repeat (with_reducible first | refine optR_go ?_ | refine optP_go ?_ | refine boxP_go ?_ | refine mkP_pair ?_ | refine mkP_go ?_ | refine joinL_go ?_ | refine joinV_go ?_ | refine joinA_go ?_ | refine joinQ_go ?_ | refine letN_go ?_ | refine boxAtP_go ?_ | refine mkAtP_pair ?_ | refine mkAtP_go ?_ | refine guardP_tt ?_ | refine guardP_tf ?_ | refine guardP_ft ?_ | refine guardP_ff ?_ | refine guardP_un ?_ | refine boolP_tt ?_ | refine boolP_ff ?_ | refine invokeP_go ?_ | refine resP_go ?_ | refine resP_go' ?_ | ((conv => arg 1; simp (disch := omega) only [setTF_eq, argsTF, nth_eq, ld1_new, ld1_old, ld_2, ld_3, ld_4, ld_5, ld_7, wr_1, wr_2, wr_3, wr_4, wr_5, wr_7, wget_same, wget_ne, ofList_get, AV.cells, xOff_ptr, xNil_ptr, xExt_tuple, notV, ib_lss, ib_gtr, ib_leq, ib_geq, ib_eql, ib_neq, List.getElem?_cons_zero, List.getElem?_cons_succ, List.length_cons, List.length_nil, Option.bind_some, Nat.zero_add, Nat.add_zero, if_true, if_false, reduceIte, Nat.reduceEqDiff, Nat.reduceAdd, Nat.reduceMul, Nat.reduceLT, Nat.reduceBEq, decide_true, decide_false, Bool.not_true, Bool.not_false, t179, t181, hixk, k0, k1, k2, al56]); (first | refine optR_go ?_ | refine optP_go ?_ | refine boolP_tt ?_ | refine boolP_ff ?_)) | dsimp only)
        refine optR_of (st_all (hget_new (by omega)) (by omega) rfl (by decide) (by decide) rfl) ?_
        have hE6 : Exts (cf G n0) S' n (hset (cf G n0) (hset (cf G n0) S' n (some (.cells (Tr.ofList [.int .i64 0, .bool false, .int .i64 0] 0 .nil) 3 .own))) n (some (.cells (writeN (Tr.ofList [.int .i64 0, .bool false, .int .i64 0] 0 .nil) 0 (AV.agg [.int .i64 ck.on, .bool ck.no, .int .i64 ck.par]).cells) 3 .own))) (n + 1) := ⟨by omega, fun b hb => by simp (disch := omega) only [hget_old]⟩
        have f0 : ∀ o, aLd1 (cf G n0) (hset (cf G n0) (hset (cf G n0) S' n (some (.cells (Tr.ofList [.int .i64 0, .bool false, .int .i64 0] 0 .nil) 3 .own))) n (some (.cells (writeN (Tr.ofList [.int .i64 0, .bool false, .int .i64 0] 0 .nil) 0 (AV.agg [.int .i64 ck.on, .bool ck.no, .int .i64 ck.par]).cells) 3 .own))) (.ptr n o) = (writeN (Tr.ofList [.int .i64 0, .bool false, .int .i64 0] 0 .nil) 0 (AV.agg [.int .i64 ck.on, .bool ck.no, .int .i64 ck.par]).cells).get o := fun o => ld1_new (by omega)
        generalize hset (cf G n0) (hset (cf G n0) S' n (some (.cells (Tr.ofList [.int .i64 0, .bool false, .int .i64 0] 0 .nil) 3 .own))) n (some (.cells (writeN (Tr.ofList [.int .i64 0, .bool false, .int .i64 0] 0 .nil) 0 (AV.agg [.int .i64 ck.on, .bool ck.no, .int .i64 ck.par]).cells) 3 .own)) = S6 at hE6 f0
        have g0 : aLd1 (cf G n0) S6 (.ptr n 0) = some (.int .i64 ck.on) := f0 0
        have g1 : aLd1 (cf G n0) S6 (.ptr n 1) = some (.bool ck.no) := f0 1
        have g2 : aLd1 (cf G n0) S6 (.ptr n 2) = some (.int .i64 ck.par) := f0 2
        clear f0 k0 k1 k2
        have hE46 := hE.trans hE6
        have hcl6 : aLd1 (cf G n0) S6 (.ptr c 0) = some sl := by rw [hE46.ld1 _ _ (by omega)]; exact hcl4
        repeat (with_reducible first | refine optR_go ?_ | refine optP_go ?_ | refine boxP_go ?_ | refine mkP_pair ?_ | refine mkP_go ?_ | refine joinL_go ?_ | refine joinV_go ?_ | refine joinA_go ?_ | refine joinQ_go ?_ | refine letN_go ?_ | refine boxAtP_go ?_ | refine mkAtP_pair ?_ | refine mkAtP_go ?_ | refine guardP_tt ?_ | refine guardP_tf ?_ | refine guardP_ft ?_ | refine guardP_ff ?_ | refine guardP_un ?_ | refine boolP_tt ?_ | refine boolP_ff ?_ | refine invokeP_go ?_ | refine resP_go ?_ | refine resP_go' ?_ | ((conv => arg 1; simp (disch := omega) only [setTF_eq, argsTF, nth_eq, ld1_new, ld1_old, ld_2, ld_3, ld_4, ld_5, ld_7, wr_1, wr_2, wr_3, wr_4, wr_5, wr_7, wget_same, wget_ne, ofList_get, AV.cells, xOff_ptr, xNil_ptr, xExt_tuple, notV, ib_lss, ib_gtr, ib_leq, ib_geq, ib_eql, ib_neq, List.getElem?_cons_zero, List.getElem?_cons_succ, List.length_cons, List.length_nil, Option.bind_some, Nat.zero_add, Nat.add_zero, if_true, if_false, reduceIte, Nat.reduceEqDiff, Nat.reduceAdd, Nat.reduceMul, Nat.reduceLT, Nat.reduceBEq, decide_true, decide_false, Bool.not_true, Bool.not_false, t11, g0, g1]); (first | refine optR_go ?_ | refine optP_go ?_ | refine boolP_tt ?_ | refine boolP_ff ?_)) | dsimp only)
        refine (place_call (by omega) (by omega) hcl6 ((hra4.ext hE46).lift (by omega)) ck.on ck.no).mono ?_ (fun _ _ _ h => h.elim)
        rintro u S7 n7 ⟨r, rfl, hr7, hE7⟩
        have hle7 := hE7.le
        have hrk := hF.is hr7 hck rfl rfl
        subst hrk
        have dkk : decide ((k : Int) ≠ (k : Int)) = false := by simp
        have hE47 := hE46.trans hE7
        have g07 : aLd1 (cf G n0) S7 (.ptr n 0) = some (.int .i64 ck.on) := by rw [hE7.ld1 _ _ (by omega)]; exact g0
        have g17 : aLd1 (cf G n0) S7 (.ptr n 1) = some (.bool ck.no) := by rw [hE7.ld1 _ _ (by omega)]; exact g1
        have g27 : aLd1 (cf G n0) S7 (.ptr n 2) = some (.int .i64 ck.par) := by rw [hE7.ld1 _ _ (by omega)]; exact g2
        repeat (with_reducible first | refine optR_go ?_ | refine optP_go ?_ | refine boxP_go ?_ | refine mkP_pair ?_ | refine mkP_go ?_ | refine joinH_go ?_ | refine joinL_go ?_ | refine joinV_go ?_ | refine joinA_go ?_ | refine joinQ_go ?_ | refine letN_go ?_ | refine boxAtP_go ?_ | refine mkAtP_pair ?_ | refine mkAtP_go ?_ | refine guardP_tt ?_ | refine guardP_tf ?_ | refine guardP_ft ?_ | refine guardP_ff ?_ | refine guardP_un ?_ | refine boolP_tt ?_ | refine boolP_ff ?_ | refine invokeP_go ?_ | refine resP_go ?_ | refine resP_go' ?_ | ((conv => arg 1; simp (disch := omega) only [setTF_eq, argsTF, nth_eq, ld1_new, ld1_old, ld_2, ld_3, ld_4, ld_5, ld_7, wr_1, wr_2, wr_3, wr_4, wr_5, wr_7, wget_same, wget_ne, ofList_get, AV.cells, xOff_ptr, xNil_ptr, xExt_tuple, notV, ib_lss, ib_gtr, ib_leq, ib_geq, ib_eql, ib_neq, List.getElem?_cons_zero, List.getElem?_cons_succ, List.length_cons, List.length_nil, Option.bind_some, Nat.zero_add, Nat.add_zero, if_true, if_false, reduceIte, Nat.reduceEqDiff, Nat.reduceAdd, Nat.reduceMul, Nat.reduceLT, Nat.reduceBEq, decide_true, decide_false, Bool.not_true, Bool.not_false, dkk, t181]); (first | refine optR_go ?_ | refine optP_go ?_ | refine boolP_tt ?_ | refine boolP_ff ?_)) | dsimp only)
        refine boolP_dec (fun hk0 => ?_) (fun hk0 => ?_)
        · refine hj2 _ _ _ ⟨?_, ?_, ?_, ?_, ?_, ?_, hE47⟩ <;> simp only [setTF_eq, reduceIte, Nat.reduceEqDiff]
          · exact t5
          · exact t11
          · exact t13
          · exact t179
          · exact t180
          · exact t181
        · rcases hF.par k ck hck with ⟨h1, h2, _⟩ | ⟨j0, v, p, q, hon, hvj, hpar, hpk, hq, hqo, hqn⟩
          · have := hF.dist k 0 _ _ hck hF.base h1 h2
            omega
          have hjl : j0 < (br3 vr).length := (List.getElem?_eq_some_iff.1 hvj).1
          have hn0 : aLd1 (cf G n0) S7 (.ptr nx 0) = some (s 0) := by rw [hE47.ld1 _ _ (by omega), hE4.ld1 _ _ (by omega), hE3.ld1 _ _ (by omega)]; exact hnm.lv
          have hvi : ixSV 7 (s 0) (.int .i64 ck.on) = some (.ptr bv (j0 * 7)) := by rw [hon]; exact hnm.rv.ix j0 (by rw [List.length_map]; exact hjl)
          have hrv : ((br3 vr).map vrow)[j0]? = some (vrow v) := by rw [List.getElem?_map, hvj]; rfl
          have hrv7 := hnm.rv.ext (((hE3.trans hE4).trans hE47).more (Nat.le_refl _))
          have v0 := hrv7.cell j0 _ 0 _ hrv rfl
          have v1 := hrv7.cell j0 _ 1 _ hrv rfl
          have v2 := hrv7.cell j0 _ 2 _ hrv rfl
          have v3 := hrv7.cell j0 _ 3 _ hrv rfl
          have v4 := hrv7.cell j0 _ 4 _ hrv rfl
          have v5 := hrv7.cell j0 _ 5 _ hrv rfl
          have v6 := hrv7.cell j0 _ 6 _ hrv rfl
          rw [Nat.add_zero] at v0
          have dpl : decide (ck.par < 0) = false := by rw [hpar]; simp
          have dpk : decide (ck.par ≥ (k : Int)) = false := by rw [hpar]; simp; omega
          repeat (with_reducible first | refine optR_go ?_ | refine optP_go ?_ | refine boxP_go ?_ | refine mkP_pair ?_ | refine mkP_go ?_ | refine joinH_go ?_ | refine joinL_go ?_ | refine joinV_go ?_ | refine joinA_go ?_ | refine joinQ_go ?_ | refine letN_go ?_ | refine boxAtP_go ?_ | refine mkAtP_pair ?_ | refine mkAtP_go ?_ | refine guardP_tt ?_ | refine guardP_tf ?_ | refine guardP_ft ?_ | refine guardP_ff ?_ | refine guardP_un ?_ | refine boolP_tt ?_ | refine boolP_ff ?_ | refine invokeP_go ?_ | refine resP_go ?_ | refine resP_go' ?_ | ((conv => arg 1; simp (disch := omega) only [setTF_eq, argsTF, nth_eq, ld1_new, ld1_old, ld_2, ld_3, ld_4, ld_5, ld_7, wr_1, wr_2, wr_3, wr_4, wr_5, wr_7, wget_same, wget_ne, ofList_get, AV.cells, xOff_ptr, xNil_ptr, xExt_tuple, notV, ib_lss, ib_gtr, ib_leq, ib_geq, ib_eql, ib_neq, List.getElem?_cons_zero, List.getElem?_cons_succ, List.length_cons, List.length_nil, Option.bind_some, Nat.zero_add, Nat.add_zero, if_true, if_false, reduceIte, Nat.reduceEqDiff, Nat.reduceAdd, Nat.reduceMul, Nat.reduceLT, Nat.reduceBEq, decide_true, decide_false, Bool.not_true, Bool.not_false, t5, hn0, g07, hvi, v0, v1, v2, v3, v4, v5, v6, al40]); (first | refine optR_go ?_ | refine optP_go ?_ | refine boolP_tt ?_ | refine boolP_ff ?_)) | dsimp only)
          refine optR_of (st_all (hget_new (by omega)) (by omega) rfl (by decide) (by decide) rfl) ?_
          have hE8 : Exts (cf G n0) S7 n7 (hset (cf G n0) (hset (cf G n0) S7 (n7 + 8) (some (.cells (Tr.ofList [.str [], .bool false, .bool false, .int .i64 0, .int .i64 0, .bool false, .int .i64 0] 0 .nil) 7 .own))) (n7 + 8) (some (.cells (writeN (Tr.ofList [.str [], .bool false, .bool false, .int .i64 0, .int .i64 0, .bool false, .int .i64 0] 0 .nil) 0 (AV.agg (vrow v)).cells) 7 .own))) (n7 + 9) := ⟨by omega, fun b hb => by simp (disch := omega) only [hget_old]⟩
          have f0 : ∀ o, aLd1 (cf G n0) (hset (cf G n0) (hset (cf G n0) S7 (n7 + 8) (some (.cells (Tr.ofList [.str [], .bool false, .bool false, .int .i64 0, .int .i64 0, .bool false, .int .i64 0] 0 .nil) 7 .own))) (n7 + 8) (some (.cells (writeN (Tr.ofList [.str [], .bool false, .bool false, .int .i64 0, .int .i64 0, .bool false, .int .i64 0] 0 .nil) 0 (AV.agg (vrow v)).cells) 7 .own))) (.ptr (n7 + 8) o) = (writeN (Tr.ofList [.str [], .bool false, .bool false, .int .i64 0, .int .i64 0, .bool false, .int .i64 0] 0 .nil) 0 (AV.agg (vrow v)).cells).get o := fun o => ld1_new (by omega)
          simp only [vrow] at hE8 f0
          generalize hset (cf G n0) (hset (cf G n0) S7 (n7 + 8) (some (.cells (Tr.ofList [.str [], .bool false, .bool false, .int .i64 0, .int .i64 0, .bool false, .int .i64 0] 0 .nil) 7 .own))) (n7 + 8) (some (.cells (writeN (Tr.ofList [.str [], .bool false, .bool false, .int .i64 0, .int .i64 0, .bool false, .int .i64 0] 0 .nil) 0 (AV.agg [.str [], .bool true, .bool false, .int .i64 1, .int .i64 v.on, .bool v.no, .int .i64 0]).cells) 7 .own)) = S8 at hE8 f0
          have w4 : aLd1 (cf G n0) S8 (.ptr (n7 + 8) 4) = some (.int .i64 v.on) := f0 4
          have w5 : aLd1 (cf G n0) S8 (.ptr (n7 + 8) 5) = some (.bool v.no) := f0 5
          clear f0 v0 v1 v2 v3 v4 v5 v6
          have hE48 := hE47.trans hE8
          have hcl8 : aLd1 (cf G n0) S8 (.ptr c 0) = some sl := by rw [hE48.ld1 _ _ (by omega)]; exact hcl4
          have g08 : aLd1 (cf G n0) S8 (.ptr n 0) = some (.int .i64 ck.on) := by rw [hE8.ld1 _ _ (by omega)]; exact g07
          have g18 : aLd1 (cf G n0) S8 (.ptr n 1) = some (.bool ck.no) := by rw [hE8.ld1 _ _ (by omega)]; exact g17
          have g28 : aLd1 (cf G n0) S8 (.ptr n 2) = some (.int .i64 ck.par) := by rw [hE8.ld1 _ _ (by omega)]; exact g27
          repeat (with_reducible first | refine optR_go ?_ | refine optP_go ?_ | refine boxP_go ?_ | refine mkP_pair ?_ | refine mkP_go ?_ | refine joinH_go ?_ | refine joinL_go ?_ | refine joinV_go ?_ | refine joinA_go ?_ | refine joinQ_go ?_ | refine letN_go ?_ | refine boxAtP_go ?_ | refine mkAtP_pair ?_ | refine mkAtP_go ?_ | refine guardP_tt ?_ | refine guardP_tf ?_ | refine guardP_ft ?_ | refine guardP_ff ?_ | refine guardP_un ?_ | refine boolP_tt ?_ | refine boolP_ff ?_ | refine invokeP_go ?_ | refine resP_go ?_ | refine resP_go' ?_ | ((conv => arg 1; simp (disch := omega) only [setTF_eq, argsTF, nth_eq, ld1_new, ld1_old, ld_2, ld_3, ld_4, ld_5, ld_7, wr_1, wr_2, wr_3, wr_4, wr_5, wr_7, wget_same, wget_ne, ofList_get, AV.cells, xOff_ptr, xNil_ptr, xExt_tuple, notV, ib_lss, ib_gtr, ib_leq, ib_geq, ib_eql, ib_neq, List.getElem?_cons_zero, List.getElem?_cons_succ, List.length_cons, List.length_nil, Option.bind_some, Nat.zero_add, Nat.add_zero, if_true, if_false, reduceIte, Nat.reduceEqDiff, Nat.reduceAdd, Nat.reduceMul, Nat.reduceLT, Nat.reduceBEq, decide_true, decide_false, Bool.not_true, Bool.not_false, t11, g28, dpl, dpk, w4, w5]); (first | refine optR_go ?_ | refine optP_go ?_ | refine boolP_tt ?_ | refine boolP_ff ?_)) | dsimp only)
          refine (place_call (nx := n7 + 10 + 20) (by omega) (by omega) hcl8 ((hra4.ext hE48).lift (by omega)) v.on v.no).mono ?_ (fun _ _ _ h => h.elim)
          rintro u S9 n9 ⟨r, rfl, hr9, hE9⟩
          have hle9 := hE9.le
          have hrp := hF.is hr9 hq hqo hqn
          rw [← hpar] at hrp
          subst hrp
          have dpp : decide (ck.par ≠ ck.par) = false := by simp
          have hE49 := (hE48.more (by omega : n7 + 9 ≤ n7 + 10 + 20)).trans hE9
          have hcl9 : aLd1 (cf G n0) S9 (.ptr c 0) = some sl := by rw [hE49.ld1 _ _ (by omega)]; exact hcl4
          have g09 : aLd1 (cf G n0) S9 (.ptr n 0) = some (.int .i64 ck.on) := by rw [hE9.ld1 _ _ (by omega)]; exact g08
          have g19 : aLd1 (cf G n0) S9 (.ptr n 1) = some (.bool ck.no) := by rw [hE9.ld1 _ _ (by omega)]; exact g18
          have g29 : aLd1 (cf G n0) S9 (.ptr n 2) = some (.int .i64 ck.par) := by rw [hE9.ld1 _ _ (by omega)]; exact g28
          have hsm : AV.same 30 (.int .i64 ck.par) (.int .i64 ck.par) = true := by simp [AV.same]
          repeat (with_reducible first | refine optR_go ?_ | refine optP_go ?_ | refine boxP_go ?_ | refine mkP_pair ?_ | refine mkP_go ?_ | refine joinH_go ?_ | refine joinL_go ?_ | refine joinV_go ?_ | refine joinA_go ?_ | refine joinQ_go ?_ | refine letN_go ?_ | refine boxAtP_go ?_ | refine mkAtP_pair ?_ | refine mkAtP_go ?_ | refine guardP_tt ?_ | refine guardP_tf ?_ | refine guardP_ft ?_ | refine guardP_ff ?_ | refine guardP_un ?_ | refine boolP_tt ?_ | refine boolP_ff ?_ | refine invokeP_go ?_ | refine resP_go ?_ | refine resP_go' ?_ | ((conv => arg 1; simp (disch := omega) only [setTF_eq, argsTF, nth_eq, ld1_new, ld1_old, ld_2, ld_3, ld_4, ld_5, ld_7, wr_1, wr_2, wr_3, wr_4, wr_5, wr_7, wget_same, wget_ne, ofList_get, AV.cells, xOff_ptr, xNil_ptr, xExt_tuple, notV, ib_lss, ib_gtr, ib_leq, ib_geq, ib_eql, ib_neq, List.getElem?_cons_zero, List.getElem?_cons_succ, List.length_cons, List.length_nil, Option.bind_some, Nat.zero_add, Nat.add_zero, if_true, if_false, reduceIte, Nat.reduceEqDiff, Nat.reduceAdd, Nat.reduceMul, Nat.reduceLT, Nat.reduceBEq, decide_true, decide_false, Bool.not_true, Bool.not_false, dpp, g29]); (first | refine optR_go ?_ | refine optP_go ?_ | refine boolP_tt ?_ | refine boolP_ff ?_)) | dsimp only)
          refine sameP_go hsm ?_
          repeat (with_reducible first | refine optR_go ?_ | refine optP_go ?_ | refine boxP_go ?_ | refine mkP_pair ?_ | refine mkP_go ?_ | refine joinH_go ?_ | refine joinL_go ?_ | refine joinV_go ?_ | refine joinA_go ?_ | refine joinQ_go ?_ | refine letN_go ?_ | refine boxAtP_go ?_ | refine mkAtP_pair ?_ | refine mkAtP_go ?_ | refine guardP_tt ?_ | refine guardP_tf ?_ | refine guardP_ft ?_ | refine guardP_ff ?_ | refine guardP_un ?_ | refine boolP_tt ?_ | refine boolP_ff ?_ | refine invokeP_go ?_ | refine resP_go ?_ | refine resP_go' ?_ | ((conv => arg 1; simp (disch := omega) only [setTF_eq, argsTF, nth_eq, ld1_new, ld1_old, ld_2, ld_3, ld_4, ld_5, ld_7, wr_1, wr_2, wr_3, wr_4, wr_5, wr_7, wget_same, wget_ne, ofList_get, AV.cells, xOff_ptr, xNil_ptr, xExt_tuple, notV, ib_lss, ib_gtr, ib_leq, ib_geq, ib_eql, ib_neq, List.getElem?_cons_zero, List.getElem?_cons_succ, List.length_cons, List.length_nil, Option.bind_some, Nat.zero_add, Nat.add_zero, if_true, if_false, reduceIte, Nat.reduceEqDiff, Nat.reduceAdd, Nat.reduceMul, Nat.reduceLT, Nat.reduceBEq, decide_true, decide_false, Bool.not_true, Bool.not_false, t11, g09, g19]); (first | refine optR_go ?_ | refine optP_go ?_ | refine boolP_tt ?_ | refine boolP_ff ?_)) | dsimp only)
          refine (place_call (by omega) (by omega) hcl9 ((hra4.ext hE49).lift (by omega)) ck.on (!ck.no)).mono ?_ (fun _ _ _ h => h.elim)
          rintro u S10 n10 ⟨r2, rfl, hr10, hE10⟩
          have hle10 := hE10.le
          have hE410 := hE49.trans hE10
          have hfin : ∀ (T : TF) (n' : Nat), n10 ≤ n' → T 5 = some (.ptr nx 0) → T 11 = some (.ptr c 0) → T 13 = some ev → T 179 = some sl → T 180 = some (.int .i64 (L.length : Int)) → T 181 = some (.int .i64 (k : Int)) → j2 T S10 n' :=
            fun T n' h a1 a2 a3 a4 a5 a6 => hj2 _ _ _ ⟨a1, a2, a3, a4, a5, a6, hE410.more h⟩
          rcases first_ck hr10 with hr2 | ⟨k2, c2, hr2, hc2, hc2o, hc2n⟩
          · subst hr2
            have dge : decide ((-1 : Int) ≥ 0) = false := rfl
            repeat (with_reducible first | refine optR_go ?_ | refine optP_go ?_ | refine boxP_go ?_ | refine mkP_pair ?_ | refine mkP_go ?_ | refine joinH_go ?_ | refine joinL_go ?_ | refine joinV_go ?_ | refine joinA_go ?_ | refine joinQ_go ?_ | refine letN_go ?_ | refine boxAtP_go ?_ | refine mkAtP_pair ?_ | refine mkAtP_go ?_ | refine guardP_tt ?_ | refine guardP_tf ?_ | refine guardP_ft ?_ | refine guardP_ff ?_ | refine guardP_un ?_ | refine boolP_tt ?_ | refine boolP_ff ?_ | refine invokeP_go ?_ | refine resP_go ?_ | refine resP_go' ?_ | ((conv => arg 1; simp (disch := omega) only [setTF_eq, argsTF, nth_eq, ld1_new, ld1_old, ld_2, ld_3, ld_4, ld_5, ld_7, wr_1, wr_2, wr_3, wr_4, wr_5, wr_7, wget_same, wget_ne, ofList_get, AV.cells, xOff_ptr, xNil_ptr, xExt_tuple, notV, ib_lss, ib_gtr, ib_leq, ib_geq, ib_eql, ib_neq, List.getElem?_cons_zero, List.getElem?_cons_succ, List.length_cons, List.length_nil, Option.bind_some, Nat.zero_add, Nat.add_zero, if_true, if_false, reduceIte, Nat.reduceEqDiff, Nat.reduceAdd, Nat.reduceMul, Nat.reduceLT, Nat.reduceBEq, decide_true, decide_false, Bool.not_true, Bool.not_false, dge]); (first | refine optR_go ?_ | refine optP_go ?_ | refine boolP_tt ?_ | refine boolP_ff ?_)) | dsimp only)
            refine hfin _ _ (by omega) ?_ ?_ ?_ ?_ ?_ ?_ <;> simp only [setTF_eq, reduceIte, Nat.reduceEqDiff]
            · exact t5
            · exact t11
            · exact t13
            · exact t179
            · exact t180
            · exact t181
          · subst hr2
            have dge : decide ((k2 : Int) ≥ 0) = true := by simp
            have g210 : aLd1 (cf G n0) S10 (.ptr n 2) = some (.int .i64 ck.par) := by rw [hE10.ld1 _ _ (by omega)]; exact g29
            have hc2p : c2.par = ck.par := by
              rcases hF.par k2 c2 hc2 with ⟨h1, h2, _⟩ | ⟨j3, v3, p3, q3, h1, h2, h3, h4, h5, h6, h7⟩
              · rw [hc2o, hon] at h1; omega
              · have hj3 : j3 = j0 := by rw [hc2o, hon] at h1; omega
                subst hj3
                rw [hvj] at h2
                cases h2
                have := hF.dist p p3 _ _ hq h5 (hqo.trans h6.symm) (hqn.trans h7.symm)
                omega
            have hbk := hbs k _ hck
            have hbo := hbs k2 _ hc2
            have hpl : p < L.length := (List.getElem?_eq_some_iff.1 hq).1
            have hbp : bs[p]? = some bs[p] := List.getElem?_eq_getElem (by omega)
            generalize bs[p] = bp at hbp
            have hek : enVal (xs.take 30) bs ck = (bp && (wordOn (xs.take 30) ck.on != ck.no)) := by unfold enVal; rw [if_neg (by omega), hpar, Int.toNat_natCast, hbp]; rfl
            have heo : enVal (xs.take 30) bs c2 = (bp && (wordOn (xs.take 30) ck.on != !ck.no)) := by unfold enVal; rw [hc2p, if_neg (by omega), hpar, Int.toNat_natCast, hbp, hc2o, hc2n]; rfl
            rw [hek] at hbk
            rw [heo] at hbo
            have hrb10 := hrb.ext hE410
            have ixe : ∀ i : Nat, i < bs.length → ixSV 1 ev (.int .i64 (i : Int)) = some (.ptr bE (i * 1)) := fun i hi => hrb.ix i (by rw [List.length_map]; exact hi)
            have hk2l : k2 < L.length := (List.getElem?_eq_some_iff.1 hc2).1
            have i1 := ixe k (by omega)
            have i2 := ixe k2 (by omega)
            have i3 := ixe p (by omega)
            rw [← hpar] at i3
            have x1 := hrb10.cell k _ 0 _ (hbrow k _ hbk) rfl
            have x2 := hrb10.cell k2 _ 0 _ (hbrow k2 _ hbo) rfl
            have x3 := hrb10.cell p _ 0 _ (hbrow p _ hbp) rfl
            rw [Nat.add_zero] at x1 x2 x3
            generalize (wordOn (xs.take 30) ck.on) = wo1 at x1 x2
            generalize ck.no = no1 at x1 x2
            have hz : ∃ z1 z2 : Bool, z1 = (bp && (wo1 != no1)) ∧ z2 = (bp && (wo1 != !no1)) ∧ (z1 = true → z2 = true → False) ∧ (z1 || z2) = bp := ⟨_, _, rfl, rfl, by cases bp <;> cases wo1 <;> cases no1 <;> simp, by cases bp <;> cases wo1 <;> cases no1 <;> rfl⟩
            obtain ⟨z1, z2, hz1, hz2, hz3, hz4⟩ := hz
            rw [← hz1] at x1
            rw [← hz2] at x2
            clear hz1 hz2
            subst hz4
            cases z1 <;> cases z2
            · rw [Bool.or_false] at x3
              repeat (with_reducible first | refine optR_go ?_ | refine optP_go ?_ | refine boxP_go ?_ | refine mkP_pair ?_ | refine mkP_go ?_ | refine joinH_go ?_ | refine joinL_go ?_ | refine joinV_go ?_ | refine joinA_go ?_ | refine joinQ_go ?_ | refine letN_go ?_ | refine boxAtP_go ?_ | refine mkAtP_pair ?_ | refine mkAtP_go ?_ | refine guardP_tt ?_ | refine guardP_tf ?_ | refine guardP_ft ?_ | refine guardP_ff ?_ | refine guardP_un ?_ | refine boolP_tt ?_ | refine boolP_ff ?_ | refine invokeP_go ?_ | refine resP_go ?_ | refine resP_go' ?_ | ((conv => arg 1; simp (disch := omega) only [setTF_eq, argsTF, nth_eq, ld1_new, ld1_old, ld_2, ld_3, ld_4, ld_5, ld_7, wr_1, wr_2, wr_3, wr_4, wr_5, wr_7, wget_same, wget_ne, ofList_get, AV.cells, xOff_ptr, xNil_ptr, xExt_tuple, notV, ib_lss, ib_gtr, ib_leq, ib_geq, ib_eql, ib_neq, List.getElem?_cons_zero, List.getElem?_cons_succ, List.length_cons, List.length_nil, Option.bind_some, Nat.zero_add, Nat.add_zero, if_true, if_false, reduceIte, Nat.reduceEqDiff, Nat.reduceAdd, Nat.reduceMul, Nat.reduceLT, Nat.reduceBEq, decide_true, decide_false, Bool.not_true, Bool.not_false, dge, t13, t181, i1, x1, i2, x2, i3, x3, nbs, g210]); (first | refine optR_go ?_ | refine optP_go ?_ | refine boolP_tt ?_ | refine boolP_ff ?_)) | dsimp only)
              refine hfin _ _ (by omega) ?_ ?_ ?_ ?_ ?_ ?_ <;> (simp only [setTF_eq, reduceIte, Nat.reduceEqDiff]; first | exact t5 | exact t11 | exact t13 | exact t179 | exact t180 | exact t181)
            · rw [Bool.false_or] at x3
              repeat (with_reducible first | refine optR_go ?_ | refine optP_go ?_ | refine boxP_go ?_ | refine mkP_pair ?_ | refine mkP_go ?_ | refine joinH_go ?_ | refine joinL_go ?_ | refine joinV_go ?_ | refine joinA_go ?_ | refine joinQ_go ?_ | refine letN_go ?_ | refine boxAtP_go ?_ | refine mkAtP_pair ?_ | refine mkAtP_go ?_ | refine guardP_tt ?_ | refine guardP_tf ?_ | refine guardP_ft ?_ | refine guardP_ff ?_ | refine guardP_un ?_ | refine boolP_tt ?_ | refine boolP_ff ?_ | refine invokeP_go ?_ | refine resP_go ?_ | refine resP_go' ?_ | ((conv => arg 1; simp (disch := omega) only [setTF_eq, argsTF, nth_eq, ld1_new, ld1_old, ld_2, ld_3, ld_4, ld_5, ld_7, wr_1, wr_2, wr_3, wr_4, wr_5, wr_7, wget_same, wget_ne, ofList_get, AV.cells, xOff_ptr, xNil_ptr, xExt_tuple, notV, ib_lss, ib_gtr, ib_leq, ib_geq, ib_eql, ib_neq, List.getElem?_cons_zero, List.getElem?_cons_succ, List.length_cons, List.length_nil, Option.bind_some, Nat.zero_add, Nat.add_zero, if_true, if_false, reduceIte, Nat.reduceEqDiff, Nat.reduceAdd, Nat.reduceMul, Nat.reduceLT, Nat.reduceBEq, decide_true, decide_false, Bool.not_true, Bool.not_false, dge, t13, t181, i1, x1, i2, x2, i3, x3, nbs, g210]); (first | refine optR_go ?_ | refine optP_go ?_ | refine boolP_tt ?_ | refine boolP_ff ?_)) | dsimp only)
              refine hfin _ _ (by omega) ?_ ?_ ?_ ?_ ?_ ?_ <;> (simp only [setTF_eq, reduceIte, Nat.reduceEqDiff]; first | exact t5 | exact t11 | exact t13 | exact t179 | exact t180 | exact t181)
            · rw [Bool.or_false] at x3
              repeat (with_reducible first | refine optR_go ?_ | refine optP_go ?_ | refine boxP_go ?_ | refine mkP_pair ?_ | refine mkP_go ?_ | refine joinH_go ?_ | refine joinL_go ?_ | refine joinV_go ?_ | refine joinA_go ?_ | refine joinQ_go ?_ | refine letN_go ?_ | refine boxAtP_go ?_ | refine mkAtP_pair ?_ | refine mkAtP_go ?_ | refine guardP_tt ?_ | refine guardP_tf ?_ | refine guardP_ft ?_ | refine guardP_ff ?_ | refine guardP_un ?_ | refine boolP_tt ?_ | refine boolP_ff ?_ | refine invokeP_go ?_ | refine resP_go ?_ | refine resP_go' ?_ | ((conv => arg 1; simp (disch := omega) only [setTF_eq, argsTF, nth_eq, ld1_new, ld1_old, ld_2, ld_3, ld_4, ld_5, ld_7, wr_1, wr_2, wr_3, wr_4, wr_5, wr_7, wget_same, wget_ne, ofList_get, AV.cells, xOff_ptr, xNil_ptr, xExt_tuple, notV, ib_lss, ib_gtr, ib_leq, ib_geq, ib_eql, ib_neq, List.getElem?_cons_zero, List.getElem?_cons_succ, List.length_cons, List.length_nil, Option.bind_some, Nat.zero_add, Nat.add_zero, if_true, if_false, reduceIte, Nat.reduceEqDiff, Nat.reduceAdd, Nat.reduceMul, Nat.reduceLT, Nat.reduceBEq, decide_true, decide_false, Bool.not_true, Bool.not_false, dge, t13, t181, i1, x1, i2, x2, i3, x3, nbs, g210]); (first | refine optR_go ?_ | refine optP_go ?_ | refine boolP_tt ?_ | refine boolP_ff ?_)) | dsimp only)
              refine hfin _ _ (by omega) ?_ ?_ ?_ ?_ ?_ ?_ <;> (simp only [setTF_eq, reduceIte, Nat.reduceEqDiff]; first | exact t5 | exact t11 | exact t13 | exact t179 | exact t180 | exact t181)
            · exact (hz3 rfl rfl).elim
      · rintro T S' n ⟨t5, t11, t13, t179, t180, t181, hE⟩
        repeat (with_reducible first | refine optR_go ?_ | refine optP_go ?_ | refine boxP_go ?_ | refine mkP_pair ?_ | refine mkP_go ?_ | refine joinL_go ?_ | refine joinV_go ?_ | refine joinA_go ?_ | refine joinQ_go ?_ | refine letN_go ?_ | refine boxAtP_go ?_ | refine mkAtP_pair ?_ | refine mkAtP_go ?_ | refine guardP_tt ?_ | refine guardP_tf ?_ | refine guardP_ft ?_ | refine guardP_ff ?_ | refine guardP_un ?_ | refine boolP_tt ?_ | refine boolP_ff ?_ | refine invokeP_go ?_ | refine resP_go ?_ | refine resP_go' ?_ | ((conv => arg 1; simp (disch := omega) only [setTF_eq, argsTF, nth_eq, ld1_new, ld1_old, ld_2, ld_3, ld_4, ld_5, ld_7, wr_1, wr_2, wr_3, wr_4, wr_5, wr_7, wget_same, wget_ne, ofList_get, AV.cells, xOff_ptr, xNil_ptr, xExt_tuple, notV, ib_lss, ib_gtr, ib_leq, ib_geq, ib_eql, ib_neq, List.getElem?_cons_zero, List.getElem?_cons_succ, List.length_cons, List.length_nil, Option.bind_some, Nat.zero_add, Nat.add_zero, if_true, if_false, reduceIte, Nat.reduceEqDiff, Nat.reduceAdd, Nat.reduceMul, Nat.reduceLT, Nat.reduceBEq, decide_true, decide_false, Bool.not_true, Bool.not_false, t181, e1]); (first | refine optR_go ?_ | refine optP_go ?_ | refine boolP_tt ?_ | refine boolP_ff ?_)) | dsimp only)
        refine ⟨L.length - (k + 1), by omega, k + 1, rfl, by omega, ?_, ?_, ?_, ?_, ?_, ?_, hE⟩ <;> simp only [setTF_eq, reduceIte, Nat.reduceEqDiff]
        · exact t5
        · exact t11
        · exact t13
        · exact t179
        · exact t180
    · repeat (with_reducible first | refine optR_go ?_ | refine optP_go ?_ | refine boxP_go ?_ | refine mkP_pair ?_ | refine mkP_go ?_ | refine joinL_go ?_ | refine joinV_go ?_ | refine joinA_go ?_ | refine joinQ_go ?_ | refine letN_go ?_ | refine boxAtP_go ?_ | refine mkAtP_pair ?_ | refine mkAtP_go ?_ | refine guardP_tt ?_ | refine guardP_tf ?_ | refine guardP_ft ?_ | refine guardP_ff ?_ | refine guardP_un ?_ | refine boolP_tt ?_ | refine boolP_ff ?_ | refine invokeP_go ?_ | refine resP_go ?_ | refine resP_go' ?_ | ((conv => arg 1; simp (disch := omega) only [setTF_eq, argsTF, nth_eq, ld1_new, ld1_old, ld_2, ld_3, ld_4, ld_5, ld_7, wr_1, wr_2, wr_3, wr_4, wr_5, wr_7, wget_same, wget_ne, ofList_get, AV.cells, xOff_ptr, xNil_ptr, xExt_tuple, notV, ib_lss, ib_gtr, ib_leq, ib_geq, ib_eql, ib_neq, List.getElem?_cons_zero, List.getElem?_cons_succ, List.length_cons, List.length_nil, Option.bind_some, Nat.zero_add, Nat.add_zero, if_true, if_false, reduceIte, Nat.reduceEqDiff, Nat.reduceAdd, Nat.reduceMul, Nat.reduceLT, Nat.reduceBEq, decide_true, decide_false, Bool.not_true, Bool.not_false]); (first | refine optR_go ?_ | refine optP_go ?_ | refine boolP_tt ?_ | refine boolP_ff ?_)) | dsimp only)
      refine hj _ _ _ ⟨?_, ?_, hE⟩ <;> simp only [setTF_eq, reduceIte, Nat.reduceEqDiff]
      · exact t5
      · exact t11
  rintro T S5 n5 ⟨t5, t11, hE⟩
  have hn0 : aLd1 (cf G n0) S5 (.ptr nx 0) = some (s 0) := by rw [hE.ld1 _ _ (by have := hE4.le; omega), hE4.ld1 _ _ (by omega), hE3.ld1 _ _ (by omega)]; exact hnm.lv
  have hll := hnm.rv.len S5
  rw [List.length_map] at hll
  repeat (with_reducible first | refine optR_go ?_ | refine optP_go ?_ | refine boxP_go ?_ | refine mkP_pair ?_ | refine mkP_go ?_ | refine joinL_go ?_ | refine joinV_go ?_ | refine joinA_go ?_ | refine joinQ_go ?_ | refine letN_go ?_ | refine boxAtP_go ?_ | refine mkAtP_pair ?_ | refine mkAtP_go ?_ | refine guardP_tt ?_ | refine guardP_tf ?_ | refine guardP_ft ?_ | refine guardP_ff ?_ | refine guardP_un ?_ | refine boolP_tt ?_ | refine boolP_ff ?_ | refine invokeP_go ?_ | refine resP_go ?_ | refine resP_go' ?_ | ((conv => arg 1; simp (disch := omega) only [setTF_eq, argsTF, nth_eq, ld1_new, ld1_old, ld_2, ld_3, ld_4, ld_5, ld_7, wr_1, wr_2, wr_3, wr_4, wr_5, wr_7, wget_same, wget_ne, ofList_get, AV.cells, xOff_ptr, xNil_ptr, xExt_tuple, notV, ib_lss, ib_gtr, ib_leq, ib_geq, ib_eql, ib_neq, List.getElem?_cons_zero, List.getElem?_cons_succ, List.length_cons, List.length_nil, Option.bind_some, Nat.zero_add, Nat.add_zero, if_true, if_false, reduceIte, Nat.reduceEqDiff, Nat.reduceAdd, Nat.reduceMul, Nat.reduceLT, Nat.reduceBEq, decide_true, decide_false, Bool.not_true, Bool.not_false, t5, hn0, hll]); (first | refine optR_go ?_ | refine optP_go ?_ | refine boolP_tt ?_ | refine boolP_ff ?_)) | dsimp only)
  refine joinH_of (fun T S' n => T 5 = some (.ptr nx 0) ∧ T 11 = some (.ptr c 0) ∧ Exts (cf G n0) S4 n4 S' n) (fun j hj => ?_) ?_
  · refine loopP_go (fun m T S' n => ∃ k : Nat, m = (br3 vr).length - k ∧ k ≤ (br3 vr).length ∧ T 5 = some (.ptr nx 0) ∧ T 11 = some (.ptr c 0) ∧ T 267 = some (s 0) ∧ T 268 = some (.int .i64 ((br3 vr).length : Int)) ∧ T 269 = some (.int .i64 (k : Int)) ∧ Exts (cf G n0) S4 n4 S' n) (br3 vr).length ⟨0, by omega, by omega, ?_, ?_, ?_, ?_, ?_, hE⟩ ?_
    · simp only [setTF_eq, reduceIte, Nat.reduceEqDiff]; exact t5
    · simp only [setTF_eq, reduceIte, Nat.reduceEqDiff]; exact t11
    · simp only [setTF_eq, reduceIte, Nat.reduceEqDiff]
    · simp only [setTF_eq, reduceIte, Nat.reduceEqDiff]
    · simp only [setTF_eq, reduceIte, Nat.reduceEqDiff]; rfl
    clear t5 t11 hE hn0
    rintro m T S' n ⟨k, rfl, hk, t5, t11, tS, tL, tI, hE⟩
    repeat (with_reducible first | refine optR_go ?_ | refine optP_go ?_ | refine boxP_go ?_ | refine mkP_pair ?_ | refine mkP_go ?_ | refine joinL_go ?_ | refine joinV_go ?_ | refine joinA_go ?_ | refine joinQ_go ?_ | refine letN_go ?_ | refine boxAtP_go ?_ | refine mkAtP_pair ?_ | refine mkAtP_go ?_ | refine guardP_tt ?_ | refine guardP_tf ?_ | refine guardP_ft ?_ | refine guardP_ff ?_ | refine guardP_un ?_ | refine boolP_tt ?_ | refine boolP_ff ?_ | refine invokeP_go ?_ | refine resP_go ?_ | refine resP_go' ?_ | ((conv => arg 1; simp (disch := omega) only [setTF_eq, argsTF, nth_eq, ld1_new, ld1_old, ld_2, ld_3, ld_4, ld_5, ld_7, wr_1, wr_2, wr_3, wr_4, wr_5, wr_7, wget_same, wget_ne, ofList_get, AV.cells, xOff_ptr, xNil_ptr, xExt_tuple, notV, ib_lss, ib_gtr, ib_leq, ib_geq, ib_eql, ib_neq, List.getElem?_cons_zero, List.getElem?_cons_succ, List.length_cons, List.length_nil, Option.bind_some, Nat.zero_add, Nat.add_zero, if_true, if_false, reduceIte, Nat.reduceEqDiff, Nat.reduceAdd, Nat.reduceMul, Nat.reduceLT, Nat.reduceBEq, decide_true, decide_false, Bool.not_true, Bool.not_false, tL, tI]); (first | refine optR_go ?_ | refine optP_go ?_ | refine boolP_tt ?_ | refine boolP_ff ?_)) | dsimp only)
    refine joinH_go ?_
    refine boolP_dec (fun hlt => ?_) (fun hge => ?_)
    · have hlt : k < (br3 vr).length := by omega
      have hkl : (br3 vr).length ≤ 30 := by simp [br3, brs]; omega
      have hvk : (br3 vr)[k]? = some (br3 vr)[k] := List.getElem?_eq_getElem hlt
      generalize (br3 vr)[k] = v at hvk
      have hmem : v ∈ br3 vr ++ brs vr.length ms ++ brs vr.length fs := by
        have := List.mem_of_getElem? hvk
        simp only [List.mem_append]
        exact .inl (.inl this)
      have hle := hE.le
      have e1 : aIBin .add (.int .i64 (k : Int)) (.int .i64 1) = some (.int .i64 ((k + 1 : Nat) : Int)) := by rw [ib_add (by omega) (by omega)]; rfl
      have hixk := hnm.rv.ix k (by simpa using hlt)
      have hr' := hnm.rv.ext ((hE3.trans hE4).trans hE)
      have hri : ((br3 vr).map vrow)[k]? = some (vrow v) := by rw [List.getElem?_map, hvk]; rfl
      have k0 := hr'.cell k _ 0 _ hri rfl
      have k1 := hr'.cell k _ 1 _ hri rfl
      have k2 := hr'.cell k _ 2 _ hri rfl
      have k3 := hr'.cell k _ 3 _ hri rfl
      have k4 := hr'.cell k _ 4 _ hri rfl
      have k5 := hr'.cell k _ 5 _ hri rfl
      have k6 := hr'.cell k _ 6 _ hri rfl
      rw [Nat.add_zero] at k0
      repeat (with_reducible first | refine optR_go ?_ | refine optP_go ?_ | refine boxP_go ?_ | refine mkP_pair ?_ | refine mkP_go ?_ | refine joinH_go ?_ | refine joinL_go ?_ | refine joinV_go ?_ | refine joinA_go ?_ | refine joinQ_go ?_ | refine letN_go ?_ | refine boxAtP_go ?_ | refine mkAtP_pair ?_ | refine mkAtP_go ?_ | refine guardP_tt ?_ | refine guardP_tf ?_ | refine guardP_ft ?_ | refine guardP_ff ?_ | refine guardP_un ?_ | refine boolP_tt ?_ | refine boolP_ff ?_ | refine invokeP_go ?_ | refine resP_go ?_ | refine resP_go' ?_ | ((conv => arg 1; simp (disch := omega) only [setTF_eq, argsTF, nth_eq, ld1_new, ld1_old, ld_2, ld_3, ld_4, ld_5, ld_7, wr_1, wr_2, wr_3, wr_4, wr_5, wr_7, wget_same, wget_ne, ofList_get, AV.cells, xOff_ptr, xNil_ptr, xExt_tuple, notV, ib_lss, ib_gtr, ib_leq, ib_geq, ib_eql, ib_neq, List.getElem?_cons_zero, List.getElem?_cons_succ, List.length_cons, List.length_nil, Option.bind_some, Nat.zero_add, Nat.add_zero, if_true, if_false, reduceIte, Nat.reduceEqDiff, Nat.reduceAdd, Nat.reduceMul, Nat.reduceLT, Nat.reduceBEq, decide_true, decide_false, Bool.not_true, Bool.not_false, tS, tI, hixk, k0, k1, k2, k3, k4, k5, k6, al40]); (first | refine optR_go ?_ | refine optP_go ?_ | refine boolP_tt ?_ | refine boolP_ff ?_)) | dsimp only)
      refine optR_of (st_all (hget_new (by omega)) (by omega) rfl (by decide) (by decide) rfl) ?_
      have hE6 : Exts (cf G n0) S' n (hset (cf G n0) (hset (cf G n0) S' n (some (.cells (Tr.ofList [.str [], .bool false, .bool false, .int .i64 0, .int .i64 0, .bool false, .int .i64 0] 0 .nil) 7 .own))) n (some (.cells (writeN (Tr.ofList [.str [], .bool false, .bool false, .int .i64 0, .int .i64 0, .bool false, .int .i64 0] 0 .nil) 0 (AV.agg [.str [], .bool true, .bool false, .int .i64 1, .int .i64 v.on, .bool v.no, .int .i64 0]).cells) 7 .own))) (n + 1) := ⟨by omega, fun b hb => by simp (disch := omega) only [hget_old]⟩
      have f0 : ∀ o, aLd1 (cf G n0) (hset (cf G n0) (hset (cf G n0) S' n (some (.cells (Tr.ofList [.str [], .bool false, .bool false, .int .i64 0, .int .i64 0, .bool false, .int .i64 0] 0 .nil) 7 .own))) n (some (.cells (writeN (Tr.ofList [.str [], .bool false, .bool false, .int .i64 0, .int .i64 0, .bool false, .int .i64 0] 0 .nil) 0 (AV.agg [.str [], .bool true, .bool false, .int .i64 1, .int .i64 v.on, .bool v.no, .int .i64 0]).cells) 7 .own))) (.ptr n o) = (writeN (Tr.ofList [.str [], .bool false, .bool false, .int .i64 0, .int .i64 0, .bool false, .int .i64 0] 0 .nil) 0 (AV.agg [.str [], .bool true, .bool false, .int .i64 1, .int .i64 v.on, .bool v.no, .int .i64 0]).cells).get o := fun o => ld1_new (by omega)
      generalize hset (cf G n0) (hset (cf G n0) S' n (some (.cells (Tr.ofList [.str [], .bool false, .bool false, .int .i64 0, .int .i64 0, .bool false, .int .i64 0] 0 .nil) 7 .own))) n (some (.cells (writeN (Tr.ofList [.str [], .bool false, .bool false, .int .i64 0, .int .i64 0, .bool false, .int .i64 0] 0 .nil) 0 (AV.agg [.str [], .bool true, .bool false, .int .i64 1, .int .i64 v.on, .bool v.no, .int .i64 0]).cells) 7 .own)) = S6 at hE6 f0
      have g0 : aLd1 (cf G n0) S6 (.ptr n 4) = some (.int .i64 v.on) := f0 4
      have g1 : aLd1 (cf G n0) S6 (.ptr n 5) = some (.bool v.no) := f0 5
      clear f0 k0 k1 k2 k3 k4 k5 k6
      have hE46 := hE.trans hE6
      have hcl6 : aLd1 (cf G n0) S6 (.ptr c 0) = some sl := by rw [hE46.ld1 _ _ (by omega)]; exact hcl4
      repeat (with_reducible first | refine optR_go ?_ | refine optP_go ?_ | refine boxP_go ?_ | refine mkP_pair ?_ | refine mkP_go ?_ | refine joinH_go ?_ | refine joinL_go ?_ | refine joinV_go ?_ | refine joinA_go ?_ | refine joinQ_go ?_ | refine letN_go ?_ | refine boxAtP_go ?_ | refine mkAtP_pair ?_ | refine mkAtP_go ?_ | refine guardP_tt ?_ | refine guardP_tf ?_ | refine guardP_ft ?_ | refine guardP_ff ?_ | refine guardP_un ?_ | refine boolP_tt ?_ | refine boolP_ff ?_ | refine invokeP_go ?_ | refine resP_go ?_ | refine resP_go' ?_ | ((conv => arg 1; simp (disch := omega) only [setTF_eq, argsTF, nth_eq, ld1_new, ld1_old, ld_2, ld_3, ld_4, ld_5, ld_7, wr_1, wr_2, wr_3, wr_4, wr_5, wr_7, wget_same, wget_ne, ofList_get, AV.cells, xOff_ptr, xNil_ptr, xExt_tuple, notV, ib_lss, ib_gtr, ib_leq, ib_geq, ib_eql, ib_neq, List.getElem?_cons_zero, List.getElem?_cons_succ, List.length_cons, List.length_nil, Option.bind_some, Nat.zero_add, Nat.add_zero, if_true, if_false, reduceIte, Nat.reduceEqDiff, Nat.reduceAdd, Nat.reduceMul, Nat.reduceLT, Nat.reduceBEq, decide_true, decide_false, Bool.not_true, Bool.not_false, t11, g0, g1]); (first | refine optR_go ?_ | refine optP_go ?_ | refine boolP_tt ?_ | refine boolP_ff ?_)) | dsimp only)
      refine (place_call (by omega) (by omega) hcl6 ((hra4.ext hE46).lift (by omega)) v.on v.no).mono ?_ (fun _ _ _ h => h.elim)
      rintro u S7 n7 ⟨r, rfl, hr7, hE7⟩
      obtain ⟨i7, c7, h7, h7o, h7n⟩ := hF.has v hmem
      have hrk := hF.is hr7 h7 h7o h7n
      subst hrk
      have d7 : decide ((i7 : Int) < 0) = false := by simp
      repeat (with_reducible first | refine optR_go ?_ | refine optP_go ?_ | refine boxP_go ?_ | refine mkP_pair ?_ | refine mkP_go ?_ | refine joinH_go ?_ | refine joinL_go ?_ | refine joinV_go ?_ | refine joinA_go ?_ | refine joinQ_go ?_ | refine letN_go ?_ | refine boxAtP_go ?_ | refine mkAtP_pair ?_ | refine mkAtP_go ?_ | refine guardP_tt ?_ | refine guardP_tf ?_ | refine guardP_ft ?_ | refine guardP_ff ?_ | refine guardP_un ?_ | refine boolP_tt ?_ | refine boolP_ff ?_ | refine invokeP_go ?_ | refine resP_go ?_ | refine resP_go' ?_ | ((conv => arg 1; simp (disch := omega) only [setTF_eq, argsTF, nth_eq, ld1_new, ld1_old, ld_2, ld_3, ld_4, ld_5, ld_7, wr_1, wr_2, wr_3, wr_4, wr_5, wr_7, wget_same, wget_ne, ofList_get, AV.cells, xOff_ptr, xNil_ptr, xExt_tuple, notV, ib_lss, ib_gtr, ib_leq, ib_geq, ib_eql, ib_neq, List.getElem?_cons_zero, List.getElem?_cons_succ, List.length_cons, List.length_nil, Option.bind_some, Nat.zero_add, Nat.add_zero, if_true, if_false, reduceIte, Nat.reduceEqDiff, Nat.reduceAdd, Nat.reduceMul, Nat.reduceLT, Nat.reduceBEq, decide_true, decide_false, Bool.not_true, Bool.not_false, d7, tI, e1]); (first | refine optR_go ?_ | refine optP_go ?_ | refine boolP_tt ?_ | refine boolP_ff ?_)) | dsimp only)
      refine ⟨(br3 vr).length - (k + 1), by omega, k + 1, rfl, by omega, ?_, ?_, ?_, ?_, ?_, hE46.trans hE7⟩ <;> simp only [setTF_eq, reduceIte, Nat.reduceEqDiff]
      · exact t5
      · exact t11
      · exact tS
      · exact tL
    · repeat (with_reducible first | refine optR_go ?_ | refine optP_go ?_ | refine boxP_go ?_ | refine mkP_pair ?_ | refine mkP_go ?_ | refine joinL_go ?_ | refine joinV_go ?_ | refine joinA_go ?_ | refine joinQ_go ?_ | refine letN_go ?_ | refine boxAtP_go ?_ | refine mkAtP_pair ?_ | refine mkAtP_go ?_ | refine guardP_tt ?_ | refine guardP_tf ?_ | refine guardP_ft ?_ | refine guardP_ff ?_ | refine guardP_un ?_ | refine boolP_tt ?_ | refine boolP_ff ?_ | refine invokeP_go ?_ | refine resP_go ?_ | refine resP_go' ?_ | ((conv => arg 1; simp (disch := omega) only [setTF_eq, argsTF, nth_eq, ld1_new, ld1_old, ld_2, ld_3, ld_4, ld_5, ld_7, wr_1, wr_2, wr_3, wr_4, wr_5, wr_7, wget_same, wget_ne, ofList_get, AV.cells, xOff_ptr, xNil_ptr, xExt_tuple, notV, ib_lss, ib_gtr, ib_leq, ib_geq, ib_eql, ib_neq, List.getElem?_cons_zero, List.getElem?_cons_succ, List.length_cons, List.length_nil, Option.bind_some, Nat.zero_add, Nat.add_zero, if_true, if_false, reduceIte, Nat.reduceEqDiff, Nat.reduceAdd, Nat.reduceMul, Nat.reduceLT, Nat.reduceBEq, decide_true, decide_false, Bool.not_true, Bool.not_false]); (first | refine optR_go ?_ | refine optP_go ?_ | refine boolP_tt ?_ | refine boolP_ff ?_)) | dsimp only)
      refine hj _ _ _ ⟨?_, ?_, hE⟩ <;> simp only [setTF_eq, reduceIte, Nat.reduceEqDiff]
      · exact t5
      · exact t11
  clear t5 t11 hE hn0 hll
  rintro T S5 n5 ⟨t5, t11, hE⟩
  have hn0 : aLd1 (cf G n0) S5 (.ptr nx 2) = some (s 2) := by rw [hE.ld1 _ _ (by have := hE4.le; omega), hE4.ld1 _ _ (by omega), hE3.ld1 _ _ (by omega)]; exact hnm.lm
  have hll := hnm.rm.len S5
  rw [List.length_map] at hll
  repeat (with_reducible first | refine optR_go ?_ | refine optP_go ?_ | refine boxP_go ?_ | refine mkP_pair ?_ | refine mkP_go ?_ | refine joinL_go ?_ | refine joinV_go ?_ | refine joinA_go ?_ | refine joinQ_go ?_ | refine letN_go ?_ | refine boxAtP_go ?_ | refine mkAtP_pair ?_ | refine mkAtP_go ?_ | refine guardP_tt ?_ | refine guardP_tf ?_ | refine guardP_ft ?_ | refine guardP_ff ?_ | refine guardP_un ?_ | refine boolP_tt ?_ | refine boolP_ff ?_ | refine invokeP_go ?_ | refine resP_go ?_ | refine resP_go' ?_ | ((conv => arg 1; simp (disch := omega) only [setTF_eq, argsTF, nth_eq, ld1_new, ld1_old, ld_2, ld_3, ld_4, ld_5, ld_7, wr_1, wr_2, wr_3, wr_4, wr_5, wr_7, wget_same, wget_ne, ofList_get, AV.cells, xOff_ptr, xNil_ptr, xExt_tuple, notV, ib_lss, ib_gtr, ib_leq, ib_geq, ib_eql, ib_neq, List.getElem?_cons_zero, List.getElem?_cons_succ, List.length_cons, List.length_nil, Option.bind_some, Nat.zero_add, Nat.add_zero, if_true, if_false, reduceIte, Nat.reduceEqDiff, Nat.reduceAdd, Nat.reduceMul, Nat.reduceLT, Nat.reduceBEq, decide_true, decide_false, Bool.not_true, Bool.not_false, t5, hn0, hll]); (first | refine optR_go ?_ | refine optP_go ?_ | refine boolP_tt ?_ | refine boolP_ff ?_)) | dsimp only)
  refine joinH_of (fun T S' n => T 5 = some (.ptr nx 0) ∧ T 11 = some (.ptr c 0) ∧ Exts (cf G n0) S4 n4 S' n) (fun j hj => ?_) ?_
  · refine loopP_go (fun m T S' n => ∃ k : Nat, m = (brs vr.length ms).length - k ∧ k ≤ (brs vr.length ms).length ∧ T 5 = some (.ptr nx 0) ∧ T 11 = some (.ptr c 0) ∧ T 284 = some (s 2) ∧ T 285 = some (.int .i64 ((brs vr.length ms).length : Int)) ∧ T 286 = some (.int .i64 (k : Int)) ∧ Exts (cf G n0) S4 n4 S' n) (brs vr.length ms).length ⟨0, by omega, by omega, ?_, ?_, ?_, ?_, ?_, hE⟩ ?_
    · simp only [setTF_eq, reduceIte, Nat.reduceEqDiff]; exact t5
    · simp only [setTF_eq, reduceIte, Nat.reduceEqDiff]; exact t11
    · simp only [setTF_eq, reduceIte, Nat.reduceEqDiff]
    · simp only [setTF_eq, reduceIte, Nat.reduceEqDiff]
    · simp only [setTF_eq, reduceIte, Nat.reduceEqDiff]; rfl
    clear t5 t11 hE hn0
    rintro m T S' n ⟨k, rfl, hk, t5, t11, tS, tL, tI, hE⟩
    repeat (with_reducible first | refine optR_go ?_ | refine optP_go ?_ | refine boxP_go ?_ | refine mkP_pair ?_ | refine mkP_go ?_ | refine joinL_go ?_ | refine joinV_go ?_ | refine joinA_go ?_ | refine joinQ_go ?_ | refine letN_go ?_ | refine boxAtP_go ?_ | refine mkAtP_pair ?_ | refine mkAtP_go ?_ | refine guardP_tt ?_ | refine guardP_tf ?_ | refine guardP_ft ?_ | refine guardP_ff ?_ | refine guardP_un ?_ | refine boolP_tt ?_ | refine boolP_ff ?_ | refine invokeP_go ?_ | refine resP_go ?_ | refine resP_go' ?_ | ((conv => arg 1; simp (disch := omega) only [setTF_eq, argsTF, nth_eq, ld1_new, ld1_old, ld_2, ld_3, ld_4, ld_5, ld_7, wr_1, wr_2, wr_3, wr_4, wr_5, wr_7, wget_same, wget_ne, ofList_get, AV.cells, xOff_ptr, xNil_ptr, xExt_tuple, notV, ib_lss, ib_gtr, ib_leq, ib_geq, ib_eql, ib_neq, List.getElem?_cons_zero, List.getElem?_cons_succ, List.length_cons, List.length_nil, Option.bind_some, Nat.zero_add, Nat.add_zero, if_true, if_false, reduceIte, Nat.reduceEqDiff, Nat.reduceAdd, Nat.reduceMul, Nat.reduceLT, Nat.reduceBEq, decide_true, decide_false, Bool.not_true, Bool.not_false, tL, tI]); (first | refine optR_go ?_ | refine optP_go ?_ | refine boolP_tt ?_ | refine boolP_ff ?_)) | dsimp only)
    refine joinH_go ?_
    refine boolP_dec (fun hlt => ?_) (fun hge => ?_)
    · have hlt : k < (brs vr.length ms).length := by omega
      have hkl : (brs vr.length ms).length ≤ 30 := by simp [br3, brs]; omega
      have hvk : (brs vr.length ms)[k]? = some (brs vr.length ms)[k] := List.getElem?_eq_getElem hlt
      generalize (brs vr.length ms)[k] = v at hvk
      have hmem : v ∈ br3 vr ++ brs vr.length ms ++ brs vr.length fs := by
        have := List.mem_of_getElem? hvk
        simp only [List.mem_append]
        exact .inl (.inr this)
      have hle := hE.le
      have e1 : aIBin .add (.int .i64 (k : Int)) (.int .i64 1) = some (.int .i64 ((k + 1 : Nat) : Int)) := by rw [ib_add (by omega) (by omega)]; rfl
      have hixk := hnm.rm.ix k (by simpa using hlt)
      have hr' := hnm.rm.ext ((hE3.trans hE4).trans hE)
      have hri : ((brs vr.length ms).map mrow)[k]? = some (mrow v) := by rw [List.getElem?_map, hvk]; rfl
      have k0 := hr'.cell k _ 0 _ hri rfl
      have k1 := hr'.cell k _ 1 _ hri rfl
      have k2 := hr'.cell k _ 2 _ hri rfl
      have k3 := hr'.cell k _ 3 _ hri rfl
      have k4 := hr'.cell k _ 4 _ hri rfl
      rw [Nat.add_zero] at k0
      repeat (with_reducible first | refine optR_go ?_ | refine optP_go ?_ | refine boxP_go ?_ | refine mkP_pair ?_ | refine mkP_go ?_ | refine joinH_go ?_ | refine joinL_go ?_ | refine joinV_go ?_ | refine joinA_go ?_ | refine joinQ_go ?_ | refine letN_go ?_ | refine boxAtP_go ?_ | refine mkAtP_pair ?_ | refine mkAtP_go ?_ | refine guardP_tt ?_ | refine guardP_tf ?_ | refine guardP_ft ?_ | refine guardP_ff ?_ | refine guardP_un ?_ | refine boolP_tt ?_ | refine boolP_ff ?_ | refine invokeP_go ?_ | refine resP_go ?_ | refine resP_go' ?_ | ((conv => arg 1; simp (disch := omega) only [setTF_eq, argsTF, nth_eq, ld1_new, ld1_old, ld_2, ld_3, ld_4, ld_5, ld_7, wr_1, wr_2, wr_3, wr_4, wr_5, wr_7, wget_same, wget_ne, ofList_get, AV.cells, xOff_ptr, xNil_ptr, xExt_tuple, notV, ib_lss, ib_gtr, ib_leq, ib_geq, ib_eql, ib_neq, List.getElem?_cons_zero, List.getElem?_cons_succ, List.length_cons, List.length_nil, Option.bind_some, Nat.zero_add, Nat.add_zero, if_true, if_false, reduceIte, Nat.reduceEqDiff, Nat.reduceAdd, Nat.reduceMul, Nat.reduceLT, Nat.reduceBEq, decide_true, decide_false, Bool.not_true, Bool.not_false, tS, tI, hixk, k0, k1, k2, k3, k4, al43]); (first | refine optR_go ?_ | refine optP_go ?_ | refine boolP_tt ?_ | refine boolP_ff ?_)) | dsimp only)
      refine optR_of (st_all (hget_new (by omega)) (by omega) rfl (by decide) (by decide) rfl) ?_
      have hE6 : Exts (cf G n0) S' n (hset (cf G n0) (hset (cf G n0) S' n (some (.cells (Tr.ofList [.int .i64 0, .int .i64 0, .int .u64 0, .int .i64 0, .bool false] 0 .nil) 5 .own))) n (some (.cells (writeN (Tr.ofList [.int .i64 0, .int .i64 0, .int .u64 0, .int .i64 0, .bool false] 0 .nil) 0 (AV.agg [.int .i64 0, .int .i64 0, .int .u64 0, .int .i64 v.on, .bool v.no]).cells) 5 .own))) (n + 1) := ⟨by omega, fun b hb => by simp (disch := omega) only [hget_old]⟩
      have f0 : ∀ o, aLd1 (cf G n0) (hset (cf G n0) (hset (cf G n0) S' n (some (.cells (Tr.ofList [.int .i64 0, .int .i64 0, .int .u64 0, .int .i64 0, .bool false] 0 .nil) 5 .own))) n (some (.cells (writeN (Tr.ofList [.int .i64 0, .int .i64 0, .int .u64 0, .int .i64 0, .bool false] 0 .nil) 0 (AV.agg [.int .i64 0, .int .i64 0, .int .u64 0, .int .i64 v.on, .bool v.no]).cells) 5 .own))) (.ptr n o) = (writeN (Tr.ofList [.int .i64 0, .int .i64 0, .int .u64 0, .int .i64 0, .bool false] 0 .nil) 0 (AV.agg [.int .i64 0, .int .i64 0, .int .u64 0, .int .i64 v.on, .bool v.no]).cells).get o := fun o => ld1_new (by omega)
      generalize hset (cf G n0) (hset (cf G n0) S' n (some (.cells (Tr.ofList [.int .i64 0, .int .i64 0, .int .u64 0, .int .i64 0, .bool false] 0 .nil) 5 .own))) n (some (.cells (writeN (Tr.ofList [.int .i64 0, .int .i64 0, .int .u64 0, .int .i64 0, .bool false] 0 .nil) 0 (AV.agg [.int .i64 0, .int .i64 0, .int .u64 0, .int .i64 v.on, .bool v.no]).cells) 5 .own)) = S6 at hE6 f0
      have g0 : aLd1 (cf G n0) S6 (.ptr n 3) = some (.int .i64 v.on) := f0 3
      have g1 : aLd1 (cf G n0) S6 (.ptr n 4) = some (.bool v.no) := f0 4
      clear f0 k0 k1 k2 k3 k4
      have hE46 := hE.trans hE6
      have hcl6 : aLd1 (cf G n0) S6 (.ptr c 0) = some sl := by rw [hE46.ld1 _ _ (by omega)]; exact hcl4
      repeat (with_reducible first | refine optR_go ?_ | refine optP_go ?_ | refine boxP_go ?_ | refine mkP_pair ?_ | refine mkP_go ?_ | refine joinH_go ?_ | refine joinL_go ?_ | refine joinV_go ?_ | refine joinA_go ?_ | refine joinQ_go ?_ | refine letN_go ?_ | refine boxAtP_go ?_ | refine mkAtP_pair ?_ | refine mkAtP_go ?_ | refine guardP_tt ?_ | refine guardP_tf ?_ | refine guardP_ft ?_ | refine guardP_ff ?_ | refine guardP_un ?_ | refine boolP_tt ?_ | refine boolP_ff ?_ | refine invokeP_go ?_ | refine resP_go ?_ | refine resP_go' ?_ | ((conv => arg 1; simp (disch := omega) only [setTF_eq, argsTF, nth_eq, ld1_new, ld1_old, ld_2, ld_3, ld_4, ld_5, ld_7, wr_1, wr_2, wr_3, wr_4, wr_5, wr_7, wget_same, wget_ne, ofList_get, AV.cells, xOff_ptr, xNil_ptr, xExt_tuple, notV, ib_lss, ib_gtr, ib_leq, ib_geq, ib_eql, ib_neq, List.getElem?_cons_zero, List.getElem?_cons_succ, List.length_cons, List.length_nil, Option.bind_some, Nat.zero_add, Nat.add_zero, if_true, if_false, reduceIte, Nat.reduceEqDiff, Nat.reduceAdd, Nat.reduceMul, Nat.reduceLT, Nat.reduceBEq, decide_true, decide_false, Bool.not_true, Bool.not_false, t11, g0, g1]); (first | refine optR_go ?_ | refine optP_go ?_ | refine boolP_tt ?_ | refine boolP_ff ?_)) | dsimp only)
      refine (place_call (by omega) (by omega) hcl6 ((hra4.ext hE46).lift (by omega)) v.on v.no).mono ?_ (fun _ _ _ h => h.elim)
      rintro u S7 n7 ⟨r, rfl, hr7, hE7⟩
      obtain ⟨i7, c7, h7, h7o, h7n⟩ := hF.has v hmem
      have hrk := hF.is hr7 h7 h7o h7n
      subst hrk
      have d7 : decide ((i7 : Int) < 0) = false := by simp
      repeat (with_reducible first | refine optR_go ?_ | refine optP_go ?_ | refine boxP_go ?_ | refine mkP_pair ?_ | refine mkP_go ?_ | refine joinH_go ?_ | refine joinL_go ?_ | refine joinV_go ?_ | refine joinA_go ?_ | refine joinQ_go ?_ | refine letN_go ?_ | refine boxAtP_go ?_ | refine mkAtP_pair ?_ | refine mkAtP_go ?_ | refine guardP_tt ?_ | refine guardP_tf ?_ | refine guardP_ft ?_ | refine guardP_ff ?_ | refine guardP_un ?_ | refine boolP_tt ?_ | refine boolP_ff ?_ | refine invokeP_go ?_ | refine resP_go ?_ | refine resP_go' ?_ | ((conv => arg 1; simp (disch := omega) only [setTF_eq, argsTF, nth_eq, ld1_new, ld1_old, ld_2, ld_3, ld_4, ld_5, ld_7, wr_1, wr_2, wr_3, wr_4, wr_5, wr_7, wget_same, wget_ne, ofList_get, AV.cells, xOff_ptr, xNil_ptr, xExt_tuple, notV, ib_lss, ib_gtr, ib_leq, ib_geq, ib_eql, ib_neq, List.getElem?_cons_zero, List.getElem?_cons_succ, List.length_cons, List.length_nil, Option.bind_some, Nat.zero_add, Nat.add_zero, if_true, if_false, reduceIte, Nat.reduceEqDiff, Nat.reduceAdd, Nat.reduceMul, Nat.reduceLT, Nat.reduceBEq, decide_true, decide_false, Bool.not_true, Bool.not_false, d7, tI, e1]); (first | refine optR_go ?_ | refine optP_go ?_ | refine boolP_tt ?_ | refine boolP_ff ?_)) | dsimp only)
      refine ⟨(brs vr.length ms).length - (k + 1), by omega, k + 1, rfl, by omega, ?_, ?_, ?_, ?_, ?_, hE46.trans hE7⟩ <;> simp only [setTF_eq, reduceIte, Nat.reduceEqDiff]
      · exact t5
      · exact t11
      · exact tS
      · exact tL
    · repeat (with_reducible first | refine optR_go ?_ | refine optP_go ?_ | refine boxP_go ?_ | refine mkP_pair ?_ | refine mkP_go ?_ | refine joinL_go ?_ | refine joinV_go ?_ | refine joinA_go ?_ | refine joinQ_go ?_ | refine letN_go ?_ | refine boxAtP_go ?_ | refine mkAtP_pair ?_ | refine mkAtP_go ?_ | refine guardP_tt ?_ | refine guardP_tf ?_ | refine guardP_ft ?_ | refine guardP_ff ?_ | refine guardP_un ?_ | refine boolP_tt ?_ | refine boolP_ff ?_ | refine invokeP_go ?_ | refine resP_go ?_ | refine resP_go' ?_ | ((conv => arg 1; simp (disch := omega) only [setTF_eq, argsTF, nth_eq, ld1_new, ld1_old, ld_2, ld_3, ld_4, ld_5, ld_7, wr_1, wr_2, wr_3, wr_4, wr_5, wr_7, wget_same, wget_ne, ofList_get, AV.cells, xOff_ptr, xNil_ptr, xExt_tuple, notV, ib_lss, ib_gtr, ib_leq, ib_geq, ib_eql, ib_neq, List.getElem?_cons_zero, List.getElem?_cons_succ, List.length_cons, List.length_nil, Option.bind_some, Nat.zero_add, Nat.add_zero, if_true, if_false, reduceIte, Nat.reduceEqDiff, Nat.reduceAdd, Nat.reduceMul, Nat.reduceLT, Nat.reduceBEq, decide_true, decide_false, Bool.not_true, Bool.not_false]); (first | refine optR_go ?_ | refine optP_go ?_ | refine boolP_tt ?_ | refine boolP_ff ?_)) | dsimp only)
      refine hj _ _ _ ⟨?_, ?_, hE⟩ <;> simp only [setTF_eq, reduceIte, Nat.reduceEqDiff]
      · exact t5
      · exact t11
  clear t5 t11 hE hn0 hll
  rintro T S5 n5 ⟨t5, t11, hE⟩
  repeat (with_reducible first | refine optR_go ?_ | refine optP_go ?_ | refine boxP_go ?_ | refine mkP_pair ?_ | refine mkP_go ?_ | refine joinL_go ?_ | refine joinV_go ?_ | refine joinA_go ?_ | refine joinQ_go ?_ | refine letN_go ?_ | refine boxAtP_go ?_ | refine mkAtP_pair ?_ | refine mkAtP_go ?_ | refine guardP_tt ?_ | refine guardP_tf ?_ | refine guardP_ft ?_ | refine guardP_ff ?_ | refine guardP_un ?_ | refine boolP_tt ?_ | refine boolP_ff ?_ | refine invokeP_go ?_ | refine resP_go ?_ | refine resP_go' ?_ | ((conv => arg 1; simp (disch := omega) only [setTF_eq, argsTF, nth_eq, ld1_new, ld1_old, ld_2, ld_3, ld_4, ld_5, ld_7, wr_1, wr_2, wr_3, wr_4, wr_5, wr_7, wget_same, wget_ne, ofList_get, AV.cells, xOff_ptr, xNil_ptr, xExt_tuple, notV, ib_lss, ib_gtr, ib_leq, ib_geq, ib_eql, ib_neq, List.getElem?_cons_zero, List.getElem?_cons_succ, List.length_cons, List.length_nil, Option.bind_some, Nat.zero_add, Nat.add_zero, if_true, if_false, reduceIte, Nat.reduceEqDiff, Nat.reduceAdd, Nat.reduceMul, Nat.reduceLT, Nat.reduceBEq, decide_true, decide_false, Bool.not_true, Bool.not_false]); (first | refine optR_go ?_ | refine optP_go ?_ | refine boolP_tt ?_ | refine boolP_ff ?_)) | dsimp only)
  exact callP_known (u := .bool true) rfl ⟨rfl, hsE hE⟩
end
end
end Go.Proofs.Ytkmmngiodbbjcaa
