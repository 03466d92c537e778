/- What tell, Of and Enabled answer; condition: a program whose clocks may be. -/
import Derived.Test.YtkmmngiodbbjcaaOrdWalk
/-! ## The walk of tell -/
namespace Go.Proofs.Ytkmmngiodbbjcaa
open Go.AE
noncomputable section
theorem ld1_cong {C : Cfg} {S S' : Tr AObj} {b : Nat} (h : hget C S' b = hget C S b) (o : Nat) : aLd1 C S' (.ptr b o) = aLd1 C S (.ptr b o) := by rw [ld1_eq, ld1_eq, h]
structure TB where
  p : Nat
  t : Nat
  nb : Nat
  cb : Nat
  bn : Nat
  bv : Nat
  r : Nat
  c : Nat
  sv : AV
def im (B : TB) : List Nat := [B.p, B.t, B.nb, B.cb, B.bn, B.bv]
def tellV (B : TB) : AV := .func (.func 19) [] [.ptr B.p 0, .ptr B.t 0, .ptr B.nb 0, .ptr B.cb 0]
structure Imm (G : Tr AObj) (n0 : Nat) (B : TB) (vs : List W) (S : Tr AObj) (lim : Nat) : Prop where
  lp : aLd1 (cf G n0) S (.ptr B.p 0) = some (.map B.r)
  lt : aLd1 (cf G n0) S (.ptr B.t 0) = some (tellV B)
  ln : aLd1 (cf G n0) S (.ptr B.nb 0) = some (.ptr B.bn 0)
  lc : aLd1 (cf G n0) S (.ptr B.cb 0) = some (.ptr B.c 0)
  rd : Rd (cf G n0) S lim B.bn B.bv B.sv vs
  low : ∀ y ∈ im B, y < lim
structure Sep (G : Tr AObj) (n0 : Nat) (B : TB) (lim : Nat) : Prop where
  r0 : (cf G n0).n0 ≤ B.r
  c0 : (cf G n0).n0 ≤ B.c
  rl : B.r < lim
  cl : B.c < lim
  rc : B.r ≠ B.c
  ri : B.r ∉ im B
  ci : B.c ∉ im B
structure St (G : Tr AObj) (n0 : Nat) (B : TB) (S : Tr AObj) (nx : Nat) (lk : W → Option Int) (L : List Ck) (bl : List Nat) : Prop where
  map : MapAt (cf G n0) S B.r lk
  cl : ∃ s cc, hget (cf G n0) S B.c = some (.cells cc 1 .own) ∧ cc.get 0 = some s ∧ Sl (cf G n0) S s 3 (L.map crow).flatten bl
  lt : ∀ y ∈ bl, y < nx
  ne : ∀ y ∈ bl, y ∉ im B ∧ y ≠ B.r ∧ y ≠ B.c
section
variable {G : Tr AObj} {n0 : Nat} {B : TB} {vs : List W} {S S' : Tr AObj} {nx nx' lim : Nat} {lk : W → Option Int} {L : List Ck} {bl : List Nat}
theorem Imm.keep (h : Imm G n0 B vs S lim) (k : ∀ y ∈ im B, hget (cf G n0) S' y = hget (cf G n0) S y) : Imm G n0 B vs S' lim := by
  have kp := k B.p (by simp [im])
  have kt := k B.t (by simp [im])
  have kn := k B.nb (by simp [im])
  have kc := k B.cb (by simp [im])
  have kb := k B.bn (by simp [im])
  have kv := k B.bv (by simp [im])
  exact ⟨by rw [ld1_cong kp]; exact h.lp, by rw [ld1_cong kt]; exact h.lt, by rw [ld1_cong kn]; exact h.ln, by rw [ld1_cong kc]; exact h.lc,
    ⟨h.rd.hbn, h.rd.hbv, h.rd.many, by rw [ld1_cong kb]; exact h.rd.ld, h.rd.len, h.rd.ix, fun i w hw => by rw [ld1_cong kv]; exact h.rd.ty i w hw, fun i w hw => by rw [ld1_cong kv]; exact h.rd.on i w hw, fun i w hw => by rw [ld1_cong kv]; exact h.rd.no i w hw⟩, h.low⟩
theorem Rd.lift {C : Cfg} {bn bv lim' : Nat} {sv : AV} (h : Rd C S lim bn bv sv vs) (k : lim ≤ lim') : Rd C S lim' bn bv sv vs :=
  ⟨Nat.lt_of_lt_of_le h.hbn k, Nat.lt_of_lt_of_le h.hbv k, h.many, h.ld, h.len, h.ix, h.ty, h.on, h.no⟩
theorem Imm.lift {lim' : Nat} (h : Imm G n0 B vs S lim) (k : lim ≤ lim') : Imm G n0 B vs S lim' := ⟨h.lp, h.lt, h.ln, h.lc, h.rd.lift k, fun y hy => Nat.lt_of_lt_of_le (h.low y hy) k⟩
theorem Sep.lift {lim' : Nat} (h : Sep G n0 B lim) (k : lim ≤ lim') : Sep G n0 B lim' := ⟨h.r0, h.c0, Nat.lt_of_lt_of_le h.rl k, Nat.lt_of_lt_of_le h.cl k, h.rc, h.ri, h.ci⟩
theorem St.keep (h : St G n0 B S nx lk L bl) (kr : hget (cf G n0) S' B.r = hget (cf G n0) S B.r) (kc : hget (cf G n0) S' B.c = hget (cf G n0) S B.c) (kb : ∀ y ∈ bl, hget (cf G n0) S' y = hget (cf G n0) S y) (hn : nx ≤ nx') : St G n0 B S' nx' lk L bl := by
  obtain ⟨s, cc, h1, h2, h3⟩ := h.cl
  exact ⟨h.map.keep kr, ⟨s, cc, by rw [kc]; exact h1, h2, h3.keep kb⟩, fun y hy => Nat.lt_of_lt_of_le (h.lt y hy) hn, h.ne⟩
theorem rows3 (L : List Ck) : ∀ r ∈ L.map crow, r.length = 3 := by
  intro r hr
  obtain ⟨c, _, rfl⟩ := List.mem_map.1 hr
  rfl
theorem flat3 (L : List Ck) : (L.map crow).flatten.length = L.length * 3 := by
  induction L with
  | nil => rfl
  | cons a l ih => rw [List.map_cons, List.flatten_cons, List.length_append, ih, List.length_cons]; simp [crow]; omega
/-- where the ways of tell meet again: the parent's place is known -/
structure Mid (G : Tr AObj) (n0 : Nat) (B : TB) (vs : List W) (S0 : Tr AObj) (nx : Nat) (lk : W → Option Int) (L : List Ck) (bl : List Nat) (w : W) (T : TF) (S : Tr AObj) (n : Nat) (par : Int) (lk1 : W → Option Int) (L1 : List Ck) (bl1 : List Nat) : Prop where
  t1 : T 1 = some (.ptr B.p 0)
  t4 : T 4 = some (.ptr B.cb 0)
  t5 : T 5 = some (.ptr nx 0)
  t10 : T 10 = some (.int .i64 par)
  hn : nx + 1 ≤ n
  k0 : aLd1 (cf G n0) S (.ptr nx 0) = some (.int .i64 w.on)
  k1 : aLd1 (cf G n0) S (.ptr nx 1) = some (.bool w.no)
  imm : Imm G n0 B vs S nx
  st : St G n0 B S n lk1 L1 bl1
  fr : ∀ y, y < nx → y ≠ B.r → y ≠ B.c → y ∉ bl → hget (cf G n0) S y = hget (cf G n0) S0 y
  sub : ∀ y ∈ bl1, y ∈ bl ∨ nx < y
  inv : Inv vs lk1 L1
  hw1 : lk1 w = some (-2)
  hb : ∀ x, x ≠ w → (lk1 x = some (-2) ↔ lk x = some (-2))
  hm : ∀ x k, lk x = some k → k ≠ -2 → lk1 x = some k
  he : ∃ e, L1 = L ++ e ∧ e.length + 1 ≤ (w.on + 2).toNat
  hp : (w.on = -1 ∧ w.no = false ∧ par = -1) ∨ ∃ (j : Nat) (v : W) (p : Nat) (q : Ck), w.on = (j : Int) ∧ vs[j]? = some v ∧ par = (p : Int) ∧ L1[p]? = some q ∧ q.on = v.on ∧ q.no = v.no
def TellQ (G : Tr AObj) (n0 : Nat) (B : TB) (vs : List W) (S : Tr AObj) (nx : Nat) (lk : W → Option Int) (L : List Ck) (bl : List Nat) (w : W) : VK := fun u S' nx' =>
  ∃ k lk' L' bl', u = .tuple [.int .i64 k, .bool true] ∧ Told vs lk L w lk' L' k ∧ St G n0 B S' nx' lk' L' bl' ∧ nx ≤ nx' ∧ (∀ y, y < nx → y ≠ B.r → y ≠ B.c → y ∉ bl → hget (cf G n0) S' y = hget (cf G n0) S y) ∧ ∀ y ∈ bl', y ∈ bl ∨ nx ≤ y
theorem tell_call (hd : Desc vs) : ∀ (d : Nat) (w : W) (S : Tr AObj) (nx : Nat) (lk : W → Option Int) (L : List Ck) (bl : List Nat), (w.on + 1).toNat = d → (cf G n0).n0 ≤ nx → Sep G n0 B nx → Imm G n0 B vs S nx → St G n0 B S nx lk L bl → Inv vs lk L → MayB vs w →
    (∀ x, lk x = some (-2) → w.on < x.on) → L.length + (w.on + 2).toNat ≤ 100000 → vs.length ≤ 1000 →
    callP (cf G n0) 19 [key w, .ptr B.p 0, .ptr B.t 0, .ptr B.nb 0, .ptr B.cb 0] S nx (TellQ G n0 B vs S nx lk L bl w) (fun _ _ _ => False) := by
  intro d
  induction d using Nat.strongRecOn with
  | ind d ih =>
  intro w S nx lk L bl hdm hn hsep himm hst hinv hmay hbeg hlen hvs
  refine callP_fn (R19_chk G n0) rfl ?_
  rw [R19_eq]
  unfold R19
  refine boxP_go ?_
  have hE1 : Exts (cf G n0) S nx (hset (cf G n0) S nx (some (.cells (Tr.ofList (key w).cells 0 .nil) (key w).cells.length .own))) (nx + 1) := Exts.fresh hn _
  have k0 : aLd1 (cf G n0) (hset (cf G n0) S nx (some (.cells (Tr.ofList (key w).cells 0 .nil) (key w).cells.length .own))) (.ptr nx 0) = some (.int .i64 w.on) := by
    rw [ld1_new hn, ofList_get]; rfl
  have k1 : aLd1 (cf G n0) (hset (cf G n0) S nx (some (.cells (Tr.ofList (key w).cells 0 .nil) (key w).cells.length .own))) (.ptr nx 1) = some (.bool w.no) := by
    rw [ld1_new hn, ofList_get]; rfl
  generalize hset (cf G n0) S nx (some (.cells (Tr.ofList (key w).cells 0 .nil) (key w).cells.length .own)) = S1 at hE1 k0 k1
  have himm1 : Imm G n0 B vs S1 nx := himm.keep fun y hy => hE1.keep y (himm.low y hy)
  have hst1 : St G n0 B S1 (nx + 1) lk L bl := hst.keep (hE1.keep _ hsep.rl) (hE1.keep _ hsep.cl) (fun y hy => hE1.keep y (hst.lt y hy)) (Nat.le_succ _)
  have hlp := himm1.lp
  have hkey : AV.agg [.int .i64 w.on, .bool w.no] = key w := rfl
  cases hw : lk w with
  | some k =>
    have hk2 : k ≠ -2 := by
      intro e
      subst e
      have := hbeg w hw
      omega
    have hlook := look_some (G := G) (n0 := n0) hst1.map hw true
    have e2 : decide (k ≠ -2) = true := by simpa using hk2
    repeat (with_reducible first | refine optR_go ?_ | refine optP_go ?_ | refine boxP_go ?_ | refine mkP_pair ?_ | refine mkP_go ?_ | refine joinH_go ?_ | refine joinL_go ?_ | refine joinV_go ?_ | refine joinA_go ?_ | refine joinQ_go ?_ | refine letN_go ?_ | refine boxAtP_go ?_ | refine mkAtP_pair ?_ | refine mkAtP_go ?_ | refine guardP_tt ?_ | refine guardP_tf ?_ | refine guardP_ft ?_ | refine guardP_ff ?_ | refine boolP_tt ?_ | refine boolP_ff ?_ | refine invokeP_go ?_ | refine resP_go ?_ | refine resP_go' ?_ | ((conv => arg 1; simp (disch := omega) only [setTF_eq, argsTF, nth_eq, ld1_new, ld1_old, ld_2, ld_3, ld_4, ld_5, ld_7, wr_1, wr_2, wr_3, wr_4, wr_5, wr_7, wget_same, wget_ne, ofList_get, AV.cells, xOff_ptr, xNil_ptr, xExt_tuple, notV, ib_lss, ib_gtr, ib_leq, ib_geq, ib_eql, ib_neq, List.getElem?_cons_zero, List.getElem?_cons_succ, List.length_cons, List.length_nil, Option.bind_some, Nat.zero_add, Nat.add_zero, if_true, if_false, reduceIte, Nat.reduceEqDiff, Nat.reduceAdd, Nat.reduceMul, Nat.reduceLT, Nat.reduceBEq, decide_true, decide_false, Bool.not_true, Bool.not_false, hlp, k0, k1, hkey, hlook, cnd_true, e2]); (first | refine optR_go ?_ | refine optP_go ?_ | refine boolP_tt ?_ | refine boolP_ff ?_)) | dsimp only)
    exact ⟨k, lk, L, bl, rfl, Told.known hinv hw hk2, hst1, by omega, fun y hy _ _ _ => hE1.keep y hy, fun y hy => .inl hy⟩
  | none =>
    have hlook := look_none (G := G) (n0 := n0) hst1.map hw
    repeat (with_reducible first | refine optR_go ?_ | refine optP_go ?_ | refine boxP_go ?_ | refine mkP_pair ?_ | refine mkP_go ?_ | refine joinH_go ?_ | refine joinL_go ?_ | refine joinV_go ?_ | refine joinA_go ?_ | refine joinQ_go ?_ | refine letN_go ?_ | refine boxAtP_go ?_ | refine mkAtP_pair ?_ | refine mkAtP_go ?_ | refine guardP_tt ?_ | refine guardP_tf ?_ | refine guardP_ft ?_ | refine guardP_ff ?_ | refine boolP_tt ?_ | refine boolP_ff ?_ | refine invokeP_go ?_ | refine resP_go ?_ | refine resP_go' ?_ | ((conv => arg 1; simp (disch := omega) only [setTF_eq, argsTF, nth_eq, ld1_new, ld1_old, ld_2, ld_3, ld_4, ld_5, ld_7, wr_1, wr_2, wr_3, wr_4, wr_5, wr_7, wget_same, wget_ne, ofList_get, AV.cells, xOff_ptr, xNil_ptr, xExt_tuple, notV, ib_lss, ib_gtr, ib_leq, ib_geq, ib_eql, ib_neq, List.getElem?_cons_zero, List.getElem?_cons_succ, List.length_cons, List.length_nil, Option.bind_some, Nat.zero_add, Nat.add_zero, if_true, if_false, reduceIte, Nat.reduceEqDiff, Nat.reduceAdd, Nat.reduceMul, Nat.reduceLT, Nat.reduceBEq, decide_true, decide_false, Bool.not_true, Bool.not_false, hlp, k0, k1, hkey, hlook]); (first | refine optR_go ?_ | refine optP_go ?_ | refine boolP_tt ?_ | refine boolP_ff ?_)) | dsimp only)
    obtain ⟨S2, hset2, hmap2, hfr2⟩ := map_set (G := G) (n0 := n0) (nx := nx + 1) hsep.r0 hst1.map w (-2)
    refine resP_vals hset2 ?_
    have hrl := hsep.rl
    have hcl := hsep.cl
    have himm2 : Imm G n0 B vs S2 nx := himm1.keep fun y hy => hfr2 y (fun e => hsep.ri (e ▸ hy))
    have hst2 : St G n0 B S2 (nx + 1) (fun x => if x = w then some (-2) else lk x) L bl :=
      ⟨hmap2, by
        obtain ⟨s, cc, h1, h2, h3⟩ := hst1.cl
        exact ⟨s, cc, by rw [hfr2 _ (fun e => hsep.rc e.symm)]; exact h1, h2, h3.keep fun y hy => hfr2 y (hst1.ne y hy).2.1⟩, hst1.lt, hst1.ne⟩
    have k0' : aLd1 (cf G n0) S2 (.ptr nx 0) = some (.int .i64 w.on) := by rw [ld1_cong (hfr2 nx (by omega))]; exact k0
    have k1' : aLd1 (cf G n0) S2 (.ptr nx 1) = some (.bool w.no) := by rw [ld1_cong (hfr2 nx (by omega))]; exact k1
    have hinv2 := hinv.begin hw
    have fr2 : ∀ y, y < nx → y ≠ B.r → hget (cf G n0) S2 y = hget (cf G n0) S y := fun y hy hr => (hfr2 y hr).trans (hE1.keep y hy)
    clear hlp k0 k1 hlook hset2
    repeat (with_reducible first | refine optR_go ?_ | refine optP_go ?_ | refine boxP_go ?_ | refine mkP_pair ?_ | refine mkP_go ?_ | refine joinL_go ?_ | refine joinV_go ?_ | refine joinA_go ?_ | refine joinQ_go ?_ | refine letN_go ?_ | refine boxAtP_go ?_ | refine mkAtP_pair ?_ | refine mkAtP_go ?_ | refine guardP_tt ?_ | refine guardP_tf ?_ | refine guardP_ft ?_ | refine guardP_ff ?_ | refine boolP_tt ?_ | refine boolP_ff ?_ | refine invokeP_go ?_ | refine resP_go ?_ | refine resP_go' ?_ | ((conv => arg 1; simp (disch := omega) only [setTF_eq, argsTF, nth_eq, ld1_new, ld1_old, ld_2, ld_3, ld_4, ld_5, ld_7, wr_1, wr_2, wr_3, wr_4, wr_5, wr_7, wget_same, wget_ne, ofList_get, AV.cells, xOff_ptr, xNil_ptr, xExt_tuple, notV, ib_lss, ib_gtr, ib_leq, ib_geq, ib_eql, ib_neq, List.getElem?_cons_zero, List.getElem?_cons_succ, List.length_cons, List.length_nil, Option.bind_some, Nat.zero_add, Nat.add_zero, if_true, if_false, reduceIte, Nat.reduceEqDiff, Nat.reduceAdd, Nat.reduceMul, Nat.reduceLT, Nat.reduceBEq, decide_true, decide_false, Bool.not_true, Bool.not_false, k0']); (first | refine optR_go ?_ | refine optP_go ?_ | refine boolP_tt ?_ | refine boolP_ff ?_)) | dsimp only)
    refine joinH_of (fun T S' n => ∃ par lk1 L1 bl1, Mid G n0 B vs S nx lk L bl w T S' n par lk1 L1 bl1) (fun j hj => ?_) ?_
    · rcases hmay with ⟨h1, h2⟩ | ⟨i, h1, h2⟩
      · have e0 : decide (0 ≤ w.on) = false := by simp; omega
        repeat (with_reducible first | refine optR_go ?_ | refine optP_go ?_ | refine boxP_go ?_ | refine mkP_pair ?_ | refine mkP_go ?_ | refine joinH_go ?_ | refine joinL_go ?_ | refine joinV_go ?_ | refine joinA_go ?_ | refine joinQ_go ?_ | refine letN_go ?_ | refine boxAtP_go ?_ | refine mkAtP_pair ?_ | refine mkAtP_go ?_ | refine guardP_tt ?_ | refine guardP_tf ?_ | refine guardP_ft ?_ | refine guardP_ff ?_ | refine boolP_tt ?_ | refine boolP_ff ?_ | refine invokeP_go ?_ | refine resP_go ?_ | refine resP_go' ?_ | ((conv => arg 1; simp (disch := omega) only [setTF_eq, argsTF, nth_eq, ld1_new, ld1_old, ld_2, ld_3, ld_4, ld_5, ld_7, wr_1, wr_2, wr_3, wr_4, wr_5, wr_7, wget_same, wget_ne, ofList_get, AV.cells, xOff_ptr, xNil_ptr, xExt_tuple, notV, ib_lss, ib_gtr, ib_leq, ib_geq, ib_eql, ib_neq, List.getElem?_cons_zero, List.getElem?_cons_succ, List.length_cons, List.length_nil, Option.bind_some, Nat.zero_add, Nat.add_zero, if_true, if_false, reduceIte, Nat.reduceEqDiff, Nat.reduceAdd, Nat.reduceMul, Nat.reduceLT, Nat.reduceBEq, decide_true, decide_false, Bool.not_true, Bool.not_false, e0]); (first | refine optR_go ?_ | refine optP_go ?_ | refine boolP_tt ?_ | refine boolP_ff ?_)) | dsimp only)
        refine hj _ _ _ ⟨-1, _, L, bl, ?_, ?_, ?_, ?_, Nat.le_refl _, k0', k1', himm2, hst2, fun y a b _ _ => fr2 y a b, fun y hy => .inl hy, hinv2, by simp, fun x hx => by simp [hx], fun x k hk _ => ?_, ⟨[], by simp, by simp; omega⟩, .inl ⟨h1, h2, rfl⟩⟩
        all_goals first | (simp only [setTF_eq, reduceIte, Nat.reduceEqDiff, argsTF, nth_eq, List.getElem?_cons_zero, List.getElem?_cons_succ]; done) | skip
        have : x ≠ w := fun e => by rw [e, hw] at hk; cases hk
        simp [this, hk]
      · have e0 : decide (0 ≤ w.on) = true := by simp; omega
        have hvi : vs[i]? = some vs[i] := List.getElem?_eq_getElem h2
        generalize vs[i] = v at hvi
        have hlt := himm2.lt
        have hln := himm2.ln
        have hld := himm2.rd.ld
        have hix := himm2.rd.ix i v hvi
        have hon := himm2.rd.on i v hvi
        have hno := himm2.rd.no i v hvi
        have e3 : aBuild (cf G n0) 70 [(0, .int .i64 v.on), (1, .bool v.no)] = some (key v) := bd70 G n0 v.on v.no
        rw [h1] at k0'
        have e0' : decide (0 ≤ (i : Int)) = true := by simp
        rw [h1] at e0
        simp only [h1]
        repeat (with_reducible first | refine optR_go ?_ | refine optP_go ?_ | refine boxP_go ?_ | refine mkP_pair ?_ | refine mkP_go ?_ | refine joinH_go ?_ | refine joinL_go ?_ | refine joinV_go ?_ | refine joinA_go ?_ | refine joinQ_go ?_ | refine letN_go ?_ | refine boxAtP_go ?_ | refine mkAtP_pair ?_ | refine mkAtP_go ?_ | refine guardP_tt ?_ | refine guardP_tf ?_ | refine guardP_ft ?_ | refine guardP_ff ?_ | refine boolP_tt ?_ | refine boolP_ff ?_ | refine invokeP_go ?_ | refine resP_go ?_ | refine resP_go' ?_ | ((conv => arg 1; simp (disch := omega) only [setTF_eq, argsTF, nth_eq, ld1_new, ld1_old, ld_2, ld_3, ld_4, ld_5, ld_7, wr_1, wr_2, wr_3, wr_4, wr_5, wr_7, wget_same, wget_ne, ofList_get, AV.cells, xOff_ptr, xNil_ptr, xExt_tuple, notV, ib_lss, ib_gtr, ib_leq, ib_geq, ib_eql, ib_neq, List.getElem?_cons_zero, List.getElem?_cons_succ, List.length_cons, List.length_nil, Option.bind_some, Nat.zero_add, Nat.add_zero, if_true, if_false, reduceIte, Nat.reduceEqDiff, Nat.reduceAdd, Nat.reduceMul, Nat.reduceLT, Nat.reduceBEq, decide_true, decide_false, Bool.not_true, Bool.not_false, k0', e0, hlt, hln, hld, hix, hon, hno, e3, tellV]); (first | refine optR_go ?_ | refine optP_go ?_ | refine boolP_tt ?_ | refine boolP_ff ?_)) | dsimp only)
        have hvd := hd i v hvi
        have hmv : MayB vs v := hvd.imp id fun ⟨q, a, b⟩ => ⟨q, a, by have := (List.getElem?_eq_some_iff.1 hvi).1; omega⟩
        have hvw : v.on < w.on := by rcases hvd with ⟨a, _⟩ | ⟨q, a, b⟩ <;> omega
        have hvm : -1 ≤ v.on := by rcases hvd with ⟨a, _⟩ | ⟨q, a, b⟩ <;> omega
        clear hvd
        have hst2' : St G n0 B S2 (nx + 1 + 26) (fun x => if x = w then some (-2) else lk x) L bl := ⟨hst2.map, hst2.cl, fun y hy => by have := hst2.lt y hy; omega, hst2.ne⟩
        refine (ih (v.on + 1).toNat (by omega) v S2 (nx + 1 + 26) _ L bl rfl (by omega) (hsep.lift (by omega)) (himm2.lift (by omega)) hst2' hinv2 hmv ?_ (by omega) hvs).mono ?_ ?_
        · intro x hx
          by_cases e : x = w
          · rw [e]; exact hvw
          · simp only [e, if_false] at hx
            have := hbeg x hx
            omega
        · rintro u S3 n3 ⟨k, lk3, L3, bl3, rfl, htold, hst3, hle3, hfr3, hsub3⟩
          repeat (with_reducible first | refine optR_go ?_ | refine optP_go ?_ | refine boxP_go ?_ | refine mkP_pair ?_ | refine mkP_go ?_ | refine joinH_go ?_ | refine joinL_go ?_ | refine joinV_go ?_ | refine joinA_go ?_ | refine joinQ_go ?_ | refine letN_go ?_ | refine boxAtP_go ?_ | refine mkAtP_pair ?_ | refine mkAtP_go ?_ | refine guardP_tt ?_ | refine guardP_tf ?_ | refine guardP_ft ?_ | refine guardP_ff ?_ | refine boolP_tt ?_ | refine boolP_ff ?_ | refine invokeP_go ?_ | refine resP_go ?_ | refine resP_go' ?_ | ((conv => arg 1; simp (disch := omega) only [setTF_eq, argsTF, nth_eq, ld1_new, ld1_old, ld_2, ld_3, ld_4, ld_5, ld_7, wr_1, wr_2, wr_3, wr_4, wr_5, wr_7, wget_same, wget_ne, ofList_get, AV.cells, xOff_ptr, xNil_ptr, xExt_tuple, notV, ib_lss, ib_gtr, ib_leq, ib_geq, ib_eql, ib_neq, List.getElem?_cons_zero, List.getElem?_cons_succ, List.length_cons, List.length_nil, Option.bind_some, Nat.zero_add, Nat.add_zero, if_true, if_false, reduceIte, Nat.reduceEqDiff, Nat.reduceAdd, Nat.reduceMul, Nat.reduceLT, Nat.reduceBEq, decide_true, decide_false, Bool.not_true, Bool.not_false]); (first | refine optR_go ?_ | refine optP_go ?_ | refine boolP_tt ?_ | refine boolP_ff ?_)) | dsimp only)
          obtain ⟨hk3, p, rfl⟩ := htold.here
          have hq : ∃ q : Ck, L3[p]? = some q ∧ q.on = v.on ∧ q.no = v.no := by
            rcases htold.inv.at' v _ hk3 with h | ⟨p', c, a1, a2, a3⟩
            · omega
            · have : p = p' := by omega
              subst this
              exact ⟨c, a2, a3⟩
          obtain ⟨q, hq1, hq2, hq3⟩ := hq
          have hnxim : nx ∉ im B := fun e => by have := himm.low nx e; omega
          have hnxbl : nx ∉ bl := fun e => by have := hst.lt nx e; omega
          have hfrn : hget (cf G n0) S3 nx = hget (cf G n0) S2 nx := hfr3 nx (by omega) (by omega) (by omega) hnxbl
          refine hj _ _ _ ⟨(p : Int), lk3, L3, bl3, ?_, ?_, ?_, ?_, by omega, by rw [ld1_cong hfrn, h1]; exact k0', by rw [ld1_cong hfrn]; exact k1', himm2.keep fun y hy => ?_, hst3, fun y a b c e => ?_, fun y hy => ?_, htold.inv, ?_, fun x hx => ?_, fun x k hk hk2 => ?_, ?_, .inr ⟨i, v, p, q, h1, hvi, rfl, hq1, hq2, hq3⟩⟩
          · simp only [setTF_eq, reduceIte, Nat.reduceEqDiff, argsTF, nth_eq, List.getElem?_cons_zero, List.getElem?_cons_succ]
          · simp only [setTF_eq, reduceIte, Nat.reduceEqDiff, argsTF, nth_eq, List.getElem?_cons_zero, List.getElem?_cons_succ]
          · simp only [setTF_eq, reduceIte, Nat.reduceEqDiff]
          · simp only [setTF_eq, reduceIte, Nat.reduceEqDiff]
          · have hyl := himm.low y hy
            exact hfr3 y (by omega) (fun e => hsep.ri (e ▸ hy)) (fun e => hsep.ci (e ▸ hy)) (fun e => (hst.ne y e).1 hy)
          · exact (hfr3 y (by omega) b c e).trans (fr2 y a b)
          · exact (hsub3 y hy).imp id (fun h => by omega)
          · exact (htold.begun w).2 (by simp)
          · rw [htold.begun x]; simp [hx]
          · have : x ≠ w := fun e => by rw [e, hw] at hk; cases hk
            exact htold.mono x k (by simp [this, hk]) hk2
          · obtain ⟨e, h3, h4⟩ := htold.pre
            exact ⟨e, h3, by omega⟩
        · exact fun _ _ _ h => h.elim
    · rintro T S3 n3 ⟨par, lk1, L1, bl1, hM⟩
      have hn3 := hM.hn
      have hk0 := hM.k0
      have hk1 := hM.k1
      have hlp := hM.imm.lp
      have hlc := hM.imm.lc
      obtain ⟨s, cc, hc1, hc2, hc3⟩ := hM.st.cl
      have hl1 : L1.length ≤ 100000 := by
        obtain ⟨e, h3, h4⟩ := hM.he
        rw [h3, List.length_append]; omega
      have hcs : aLd1 (cf G n0) S3 (.ptr B.c 0) = some s := by rw [ld1_eq, hc1]; exact hc2
      obtain ⟨b3, _, hrows⟩ := hc3.rows (t := 50) (by decide) (rows3 L1) (und50 G n0) (by rw [List.length_map]; omega) hM.st.lt
      have hlen3 := hrows.len
      rw [List.length_map] at hlen3
      have t1 := hM.t1
      have t4 := hM.t4
      have t5 := hM.t5
      have t10 := hM.t10
      have hkey : AV.agg [.int .i64 w.on, .bool w.no] = key w := rfl
      repeat (with_reducible first | refine optR_go ?_ | refine optP_go ?_ | refine boxP_go ?_ | refine mkP_pair ?_ | refine mkP_go ?_ | refine joinH_go ?_ | refine joinL_go ?_ | refine joinV_go ?_ | refine joinA_go ?_ | refine joinQ_go ?_ | refine letN_go ?_ | refine boxAtP_go ?_ | refine mkAtP_pair ?_ | refine mkAtP_go ?_ | refine guardP_tt ?_ | refine guardP_tf ?_ | refine guardP_ft ?_ | refine guardP_ff ?_ | refine boolP_tt ?_ | refine boolP_ff ?_ | refine invokeP_go ?_ | refine resP_go ?_ | refine resP_go' ?_ | ((conv => arg 1; simp (disch := omega) only [setTF_eq, argsTF, nth_eq, ld1_new, ld1_old, ld_2, ld_3, ld_4, ld_5, ld_7, wr_1, wr_2, wr_3, wr_4, wr_5, wr_7, wget_same, wget_ne, ofList_get, AV.cells, xOff_ptr, xNil_ptr, xExt_tuple, notV, ib_lss, ib_gtr, ib_leq, ib_geq, ib_eql, ib_neq, List.getElem?_cons_zero, List.getElem?_cons_succ, List.length_cons, List.length_nil, Option.bind_some, Nat.zero_add, Nat.add_zero, if_true, if_false, reduceIte, Nat.reduceEqDiff, Nat.reduceAdd, Nat.reduceMul, Nat.reduceLT, Nat.reduceBEq, decide_true, decide_false, Bool.not_true, Bool.not_false, t1, t4, t5, hlp, hk0, hk1, hlc, hcs, hlen3, hkey]); (first | refine optR_go ?_ | refine optP_go ?_ | refine boolP_tt ?_ | refine boolP_ff ?_)) | dsimp only)
      obtain ⟨S4, hset4, hmap4, hfr4⟩ := map_set (G := G) (n0 := n0) (nx := n3 + 8) hsep.r0 hM.st.map w (L1.length : Int)
      refine resP_vals hset4 ?_
      have himm4 : Imm G n0 B vs S4 nx := hM.imm.keep fun y hy => hfr4 y (fun e => hsep.ri (e ▸ hy))
      have hc4 : hget (cf G n0) S4 B.c = some (.cells cc 1 .own) := by rw [hfr4 _ (fun e => hsep.rc e.symm)]; exact hc1
      have hcs4 : aLd1 (cf G n0) S4 (.ptr B.c 0) = some s := by rw [ld1_eq, hc4]; exact hc2
      have hk04 : aLd1 (cf G n0) S4 (.ptr nx 0) = some (.int .i64 w.on) := by rw [ld1_cong (hfr4 nx (by omega))]; exact hk0
      have hk14 : aLd1 (cf G n0) S4 (.ptr nx 1) = some (.bool w.no) := by rw [ld1_cong (hfr4 nx (by omega))]; exact hk1
      have hlc4 := himm4.lc
      have hsl4 : Sl (cf G n0) S4 s 3 (L1.map crow).flatten bl1 := hc3.keep fun y hy => hfr4 y (hM.st.ne y hy).2.1
      repeat (with_reducible first | refine optR_go ?_ | refine optP_go ?_ | refine boxP_go ?_ | refine mkP_pair ?_ | refine mkP_go ?_ | refine joinH_go ?_ | refine joinL_go ?_ | refine joinV_go ?_ | refine joinA_go ?_ | refine joinQ_go ?_ | refine letN_go ?_ | refine boxAtP_go ?_ | refine mkAtP_pair ?_ | refine mkAtP_go ?_ | refine guardP_tt ?_ | refine guardP_tf ?_ | refine guardP_ft ?_ | refine guardP_ff ?_ | refine boolP_tt ?_ | refine boolP_ff ?_ | refine invokeP_go ?_ | refine resP_go ?_ | refine resP_go' ?_ | ((conv => arg 1; simp (disch := omega) only [setTF_eq, argsTF, nth_eq, ld1_new, ld1_old, ld_2, ld_3, ld_4, ld_5, ld_7, wr_1, wr_2, wr_3, wr_4, wr_5, wr_7, wget_same, wget_ne, ofList_get, AV.cells, xOff_ptr, xNil_ptr, xExt_tuple, notV, ib_lss, ib_gtr, ib_leq, ib_geq, ib_eql, ib_neq, List.getElem?_cons_zero, List.getElem?_cons_succ, List.length_cons, List.length_nil, Option.bind_some, Nat.zero_add, Nat.add_zero, if_true, if_false, reduceIte, Nat.reduceEqDiff, Nat.reduceAdd, Nat.reduceMul, Nat.reduceLT, Nat.reduceBEq, decide_true, decide_false, Bool.not_true, Bool.not_false, t1, t4, t5, t10, hlc4, hcs4, hk04, hk14, bd56, sv50]); (first | refine optR_go ?_ | refine optP_go ?_ | refine boolP_tt ?_ | refine boolP_ff ?_)) | dsimp only)
      have hbl1 : ∀ y ∈ bl1, y < n3 := hM.st.lt
      have hcbn : B.cb < nx := himm.low _ (by simp [im])
      refine push_step (nx := 0) (S0 := S4) (.inr (.inr (.inr (.inl rfl)))) (el50 G n0) hsl4 (fun y hy => ?_) (hget_new (by omega)) ?_ ?_ ?_ (by omega) (fun y hy => ?_) ?_ ?_
      · have := hbl1 y hy
        simp (disch := omega) only [hget_old]
      · rfl
      · rfl
      · rw [flat3]; simp; omega
      · have := hbl1 y hy; omega
      · exact ⟨by omega, fun b hb => by omega⟩
      · intro s' S5 hsl5 _ hfr5
        have hin5 : ∀ y, y < nx → y ∉ bl1 → hget (cf G n0) S5 y = hget (cf G n0) S4 y := by
          intro y hy hyb
          rw [hfr5 y (by omega) hyb, hget_old (by omega) (by omega)]
        have hnx5 : hget (cf G n0) S5 nx = hget (cf G n0) S4 nx := by
          have hnb : nx ∉ bl1 := fun e => by
            rcases hM.sub nx e with h | h
            · have := hst.lt nx h; omega
            · omega
          rw [hfr5 nx (by omega) hnb, hget_old (by omega) (by omega)]
        have himm5 : Imm G n0 B vs S5 nx := himm4.keep fun y hy => hin5 y (himm.low y hy) (fun e => (hM.st.ne y e).1 hy)
        have hc5 : hget (cf G n0) S5 B.c = some (.cells cc 1 .own) := by rw [hin5 _ hcl (fun e => (hM.st.ne _ e).2.2 rfl)]; exact hc4
        have hlc5 := himm5.lc
        have hsame : AV.same 30 (.ptr B.c 0) (.ptr B.c 0) = true := by simp [AV.same]
        repeat (with_reducible first | refine optR_go ?_ | refine optP_go ?_ | refine boxP_go ?_ | refine mkP_pair ?_ | refine mkP_go ?_ | refine joinH_go ?_ | refine joinL_go ?_ | refine joinV_go ?_ | refine joinA_go ?_ | refine joinQ_go ?_ | refine letN_go ?_ | refine boxAtP_go ?_ | refine mkAtP_pair ?_ | refine mkAtP_go ?_ | refine guardP_tt ?_ | refine guardP_tf ?_ | refine guardP_ft ?_ | refine guardP_ff ?_ | refine boolP_tt ?_ | refine boolP_ff ?_ | refine invokeP_go ?_ | refine resP_go ?_ | refine resP_go' ?_ | ((conv => arg 1; simp (disch := omega) only [setTF_eq, argsTF, nth_eq, ld1_new, ld1_old, ld_2, ld_3, ld_4, ld_5, ld_7, wr_1, wr_2, wr_3, wr_4, wr_5, wr_7, wget_same, wget_ne, ofList_get, AV.cells, xOff_ptr, xNil_ptr, xExt_tuple, notV, ib_lss, ib_gtr, ib_leq, ib_geq, ib_eql, ib_neq, List.getElem?_cons_zero, List.getElem?_cons_succ, List.length_cons, List.length_nil, Option.bind_some, Nat.zero_add, Nat.add_zero, if_true, if_false, reduceIte, Nat.reduceEqDiff, Nat.reduceAdd, Nat.reduceMul, Nat.reduceLT, Nat.reduceBEq, decide_true, decide_false, Bool.not_true, Bool.not_false, t4, hlc5]); (first | refine optR_go ?_ | refine optP_go ?_ | refine boolP_tt ?_ | refine boolP_ff ?_)) | dsimp only)
        refine sameP_go hsame ?_
        have h1s : ones [s'] = true ∧ AV.cells s' = [s'] := by
          rcases hsl5 with ⟨h, _⟩ | ⟨_, _, _, _, h, _⟩ <;> subst h <;> exact ⟨rfl, rfl⟩
        refine optR_of (st_all hc5 hsep.c0 (by rw [h1s.2]; rfl) (by decide) (by decide) (by rw [h1s.2]; exact h1s.1)) ?_
        rw [h1s.2]
        have hS6 : ∀ y, y ≠ B.c → hget (cf G n0) (hset (cf G n0) S5 B.c (some (.cells (writeN cc 0 [s']) 1 .own))) y = hget (cf G n0) S5 y := fun y hy => hget_old hsep.c0 hy
        have hc6 : hget (cf G n0) (hset (cf G n0) S5 B.c (some (.cells (writeN cc 0 [s']) 1 .own))) B.c = some (.cells (writeN cc 0 [s']) 1 .own) := hget_new hsep.c0
        generalize hset (cf G n0) S5 B.c (some (.cells (writeN cc 0 [s']) 1 .own)) = S6 at hS6 hc6
        have himm6 : Imm G n0 B vs S6 nx := himm5.keep fun y hy => hS6 y (fun e => hsep.ci (e ▸ hy))
        have hlp6 := himm6.lp
        have hk06 : aLd1 (cf G n0) S6 (.ptr nx 0) = some (.int .i64 w.on) := by rw [ld1_cong (hS6 nx (by omega)), ld1_cong hnx5]; exact hk04
        have hk16 : aLd1 (cf G n0) S6 (.ptr nx 1) = some (.bool w.no) := by rw [ld1_cong (hS6 nx (by omega)), ld1_cong hnx5]; exact hk14
        have hmap6 : MapAt (cf G n0) S6 B.r (fun x => if x = w then some (L1.length : Int) else lk1 x) := hmap4.keep (by rw [hS6 _ hsep.rc, hin5 _ hrl (fun e => (hM.st.ne _ e).2.1 rfl)])
        have hlook6 := look_some (G := G) (n0 := n0) hmap6 (w := w) (k := (L1.length : Int)) (by simp) false
        repeat (with_reducible first | refine optR_go ?_ | refine optP_go ?_ | refine boxP_go ?_ | refine mkP_pair ?_ | refine mkP_go ?_ | refine joinH_go ?_ | refine joinL_go ?_ | refine joinV_go ?_ | refine joinA_go ?_ | refine joinQ_go ?_ | refine letN_go ?_ | refine boxAtP_go ?_ | refine mkAtP_pair ?_ | refine mkAtP_go ?_ | refine guardP_tt ?_ | refine guardP_tf ?_ | refine guardP_ft ?_ | refine guardP_ff ?_ | refine boolP_tt ?_ | refine boolP_ff ?_ | refine invokeP_go ?_ | refine resP_go ?_ | refine resP_go' ?_ | ((conv => arg 1; simp (disch := omega) only [setTF_eq, argsTF, nth_eq, ld1_new, ld1_old, ld_2, ld_3, ld_4, ld_5, ld_7, wr_1, wr_2, wr_3, wr_4, wr_5, wr_7, wget_same, wget_ne, ofList_get, AV.cells, xOff_ptr, xNil_ptr, xExt_tuple, notV, ib_lss, ib_gtr, ib_leq, ib_geq, ib_eql, ib_neq, List.getElem?_cons_zero, List.getElem?_cons_succ, List.length_cons, List.length_nil, Option.bind_some, Nat.zero_add, Nat.add_zero, if_true, if_false, reduceIte, Nat.reduceEqDiff, Nat.reduceAdd, Nat.reduceMul, Nat.reduceLT, Nat.reduceBEq, decide_true, decide_false, Bool.not_true, Bool.not_false, t1, t5, hlp6, hk06, hk16, hkey, hlook6, cnd_false]); (first | refine optR_go ?_ | refine optP_go ?_ | refine boolP_tt ?_ | refine boolP_ff ?_)) | dsimp only)
        have hadd := Told.add (par := par) hinv hw hM.inv hM.hw1 hM.hb hM.hm hM.he hM.hp
        refine ⟨_, _, _, (n3 + 8 + 16) :: bl1, rfl, hadd, ⟨hmap6, ⟨s', _, hc6, wget_same _ _ _, ?_⟩, fun y hy => ?_, fun y hy => ?_⟩, by omega, fun y a b c e => ?_, fun y hy => ?_⟩
        · rw [List.map_append, List.flatten_append]
          simp only [List.map_cons, List.map_nil, List.flatten_cons, List.flatten_nil, List.append_nil]
          refine hsl5.keep fun y hy => hS6 y ?_
          rcases List.mem_cons.1 hy with rfl | hy
          · omega
          · exact (hM.st.ne y hy).2.2
        · rcases List.mem_cons.1 hy with rfl | hy
          · omega
          · have := hbl1 y hy; omega
        · rcases List.mem_cons.1 hy with rfl | hy
          · exact ⟨fun e => by have := himm.low _ e; omega, by omega, by omega⟩
          · exact hM.st.ne y hy
        · have hyb : y ∉ bl1 := fun h => by
            rcases hM.sub y h with h | h
            · exact e h
            · omega
          rw [hS6 y c, hin5 y a hyb, hfr4 y b]
          exact hM.fr y a b c e
        · rcases List.mem_cons.1 hy with rfl | hy
          · right; omega
          · exact (hM.sub y hy).imp id (fun h => by omega)
end
end
end Go.Proofs.Ytkmmngiodbbjcaa

/-! ## The walk of Of -/
namespace Go.Proofs.Ytkmmngiodbbjcaa
open Go.AE
noncomputable section
section
variable {G : Tr AObj} {n0 : Nat} {S S' : Tr AObj} {nx nx' lim bn bv bm bf : Nat} {sv sm sf : AV} {vs ms fs : List W}
theorem NM.rd {C : Cfg} (h : NM C S lim bn sv sm sf bv bm bf vs ms fs) (hne : bv < lim) (hm : vs.length ≤ 1000) : Rd C S lim bn bv sv vs := by
  have hr : ∀ (i : Nat) w, vs[i]? = some w → (vs.map vrow)[i]? = some (vrow w) := fun i w hw => by rw [List.getElem?_map, hw]; rfl
  refine ⟨h.hbn, hne, hm, h.lv, fun S' => by rw [h.rv.len S', List.length_map], fun i w hw => h.rv.ix i (by rw [List.length_map]; exact (List.getElem?_eq_some_iff.1 hw).1), fun i w hw => ?_, fun i w hw => ?_, fun i w hw => ?_⟩
  · exact h.rv.cell i _ 1 _ (hr i w hw) rfl
  · exact h.rv.cell i _ 4 _ (hr i w hw) rfl
  · exact h.rv.cell i _ 5 _ (hr i w hw) rfl
/-- what Of tells of a program's clocks -/
structure Fin (vs ws : List W) (L : List Ck) : Prop where
  base : L[0]? = some ⟨-1, false, -1⟩
  dist : ∀ (i j : Nat) a b, L[i]? = some a → L[j]? = some b → a.on = b.on → a.no = b.no → i = j
  par : ∀ (i : Nat) c, L[i]? = some c → (c.on = -1 ∧ c.no = false ∧ c.par = -1) ∨ ∃ (j : Nat) (v : W) (p : Nat) (q : Ck), c.on = (j : Int) ∧ vs[j]? = some v ∧ c.par = (p : Int) ∧ p < i ∧ L[p]? = some q ∧ q.on = v.on ∧ q.no = v.no
  has : ∀ w ∈ ws, ∃ (i : Nat) (c : Ck), L[i]? = some c ∧ c.on = w.on ∧ c.no = w.no
  many : L.length ≤ 100000
def base : W := ⟨-1, false⟩
theorem of_call (hd : Desc vs) (hn : (cf G n0).n0 ≤ nx) (h : NM (cf G n0) S nx bn sv sm sf bv bm bf vs ms fs) (hbv : bv < nx) (hv : vs.length ≤ 100) (hm : ms.length ≤ 100) (hf : fs.length ≤ 100) (hmm : ∀ w ∈ ms, MayB vs w) (hmf : ∀ w ∈ fs, MayB vs w) :
    callP (cf G n0) 8 [.ptr bn 0] S nx (fun u S' nx' => ∃ c s b L, u = .tuple [.ptr c 0, .int .i64 0] ∧ c < nx' ∧ aLd1 (cf G n0) S' (.ptr c 0) = some s ∧ RdA (cf G n0) S' nx' b s 50 3 (L.map crow) ∧ Fin vs (vs ++ ms ++ fs) L ∧ Exts (cf G n0) S nx S' nx') (fun _ _ _ => False) := by
  have hmv : ∀ w ∈ vs, MayB vs w := by
    intro w hw
    obtain ⟨i, hi⟩ := List.getElem?_of_mem hw
    exact (hd i w hi).imp id fun ⟨q, a, b⟩ => ⟨q, a, by have := (List.getElem?_eq_some_iff.1 hi).1; omega⟩
  have hrd := h.rd hbv (by omega)
  have hbn := h.hbn
  refine callP_fn (R8_chk G n0) rfl ?_
  rw [R8_eq]
  unfold R8
  refine boxP_go ?_
  have hE1 : Exts (cf G n0) S nx (hset (cf G n0) S nx (some (.cells (Tr.ofList (AV.ptr bn 0).cells 0 .nil) (AV.ptr bn 0).cells.length .own))) (nx + 1) := Exts.fresh hn _
  have k0 : aLd1 (cf G n0) (hset (cf G n0) S nx (some (.cells (Tr.ofList (AV.ptr bn 0).cells 0 .nil) (AV.ptr bn 0).cells.length .own))) (.ptr nx 0) = some (.ptr bn 0) := by
    rw [ld1_new hn, ofList_get]; rfl
  generalize hset (cf G n0) S nx (some (.cells (Tr.ofList (AV.ptr bn 0).cells 0 .nil) (AV.ptr bn 0).cells.length .own)) = S1 at hE1 k0
  repeat (with_reducible first | refine optR_go ?_ | refine optP_go ?_ | refine boxP_go ?_ | refine mkP_pair ?_ | refine mkP_go ?_ | refine joinH_go ?_ | refine joinL_go ?_ | refine joinV_go ?_ | refine joinA_go ?_ | refine joinQ_go ?_ | refine letN_go ?_ | refine boxAtP_go ?_ | refine mkAtP_pair ?_ | refine mkAtP_go ?_ | refine guardP_tt ?_ | refine guardP_tf ?_ | refine guardP_ft ?_ | refine guardP_ff ?_ | refine boolP_tt ?_ | refine boolP_ff ?_ | refine invokeP_go ?_ | refine resP_go ?_ | refine resP_go' ?_ | ((conv => arg 1; simp (disch := omega) only [setTF_eq, argsTF, nth_eq, ld1_new, ld1_old, ld_2, ld_3, ld_4, ld_5, ld_7, wr_1, wr_2, wr_3, wr_4, wr_5, wr_7, wget_same, wget_ne, ofList_get, AV.cells, xOff_ptr, xNil_ptr, xExt_tuple, notV, ib_lss, ib_gtr, ib_leq, ib_geq, ib_eql, ib_neq, List.getElem?_cons_zero, List.getElem?_cons_succ, List.length_cons, List.length_nil, Option.bind_some, Nat.zero_add, Nat.add_zero, if_true, if_false, reduceIte, Nat.reduceEqDiff, Nat.reduceAdd, Nat.reduceMul, Nat.reduceLT, Nat.reduceBEq, decide_true, decide_false, Bool.not_true, Bool.not_false, k0, eq24]); (first | refine optR_go ?_ | refine optP_go ?_ | refine boolP_tt ?_ | refine boolP_ff ?_)) | dsimp only)
  have hnm1 : NM (cf G n0) S1 (nx + 1) bn sv sm sf bv bm bf vs ms fs :=
    ⟨by omega, by rw [hE1.ld1 _ _ hbn]; exact h.lv, by rw [hE1.ld1 _ _ hbn]; exact h.lm, by rw [hE1.ld1 _ _ hbn]; exact h.lf, (h.rv.ext hE1).lift (by omega), (h.rm.ext hE1).lift (by omega), (h.rf.ext hE1).lift (by omega)⟩
  refine (all_call (by omega) hnm1 (by omega) (by omega) (by omega)).mono ?_ (fun _ _ _ h => h.elim)
  rintro sl S2 n2 ⟨bl2, hsl2, hbl2, hE2⟩
  have hle2 := hE2.le
  have hk02 : aLd1 (cf G n0) S2 (.ptr nx 0) = some (.ptr bn 0) := by rw [hE2.ld1 _ _ (by omega)]; exact k0
  repeat (with_reducible first | refine optR_go ?_ | refine optP_go ?_ | refine boxP_go ?_ | refine mkP_pair ?_ | refine mkP_go ?_ | refine joinH_go ?_ | refine joinL_go ?_ | refine joinV_go ?_ | refine joinA_go ?_ | refine joinQ_go ?_ | refine letN_go ?_ | refine boxAtP_go ?_ | refine mkAtP_pair ?_ | refine mkAtP_go ?_ | refine guardP_tt ?_ | refine guardP_tf ?_ | refine guardP_ft ?_ | refine guardP_ff ?_ | refine boolP_tt ?_ | refine boolP_ff ?_ | refine invokeP_go ?_ | refine resP_go ?_ | refine resP_go' ?_ | ((conv => arg 1; simp (disch := omega) only [setTF_eq, argsTF, nth_eq, ld1_new, ld1_old, ld_2, ld_3, ld_4, ld_5, ld_7, wr_1, wr_2, wr_3, wr_4, wr_5, wr_7, wget_same, wget_ne, ofList_get, AV.cells, xOff_ptr, xNil_ptr, xExt_tuple, notV, ib_lss, ib_gtr, ib_leq, ib_geq, ib_eql, ib_neq, List.getElem?_cons_zero, List.getElem?_cons_succ, List.length_cons, List.length_nil, Option.bind_some, Nat.zero_add, Nat.add_zero, if_true, if_false, reduceIte, Nat.reduceEqDiff, Nat.reduceAdd, Nat.reduceMul, Nat.reduceLT, Nat.reduceBEq, decide_true, decide_false, Bool.not_true, Bool.not_false]); (first | refine optR_go ?_ | refine optP_go ?_ | refine boolP_tt ?_ | refine boolP_ff ?_)) | dsimp only)
  have hrd2 : Rd (cf G n0) S2 nx bn bv sv vs := (hrd.ext hE1).ext (hE2.more' (by omega))
  have hkl : ∀ r ∈ (vs ++ ms ++ fs).map krow, r.length = 2 := by
    intro r hr
    obtain ⟨c, _, rfl⟩ := List.mem_map.1 hr
    rfl
  obtain ⟨b2, _, hra2⟩ := hsl2.rows (t := 66) (by decide) hkl (und66 G n0) (by simp; omega) (lim := n2) (fun y hy => (hbl2 y hy).2)
  refine (contains_call (by omega) hrd2 (by omega) hra2 ?_ (bx := nx) (by omega) hk02).mono ?_ (fun _ _ _ h => h.elim)
  · intro w hw
    simp only [List.mem_append] at hw
    rcases hw with (hw | hw) | hw
    · exact hmv w hw
    · exact hmm w hw
    · exact hmf w hw
  rintro u S3 n3 ⟨rfl, hE3⟩
  have hle3 := hE3.le
  have hsl3 : Sl (cf G n0) S3 sl 2 ((vs ++ ms ++ fs).map krow).flatten bl2 := hsl2.keep fun y hy => hE3.keep y (hbl2 y hy).2
  have hk03 : aLd1 (cf G n0) S3 (.ptr nx 0) = some (.ptr bn 0) := by rw [hE3.ld1 _ _ (by omega)]; exact hk02
  have hrd3 : Rd (cf G n0) S3 nx bn bv sv vs := hrd2.ext (hE3.more' (by omega))
  have hE03 : Exts (cf G n0) S nx S3 n3 := (hE1.trans hE2).trans hE3
  repeat (with_reducible first | refine optR_go ?_ | refine optP_go ?_ | refine boxP_go ?_ | refine mkP_pair ?_ | refine mkP_go ?_ | refine joinH_go ?_ | refine joinL_go ?_ | refine joinV_go ?_ | refine joinA_go ?_ | refine joinQ_go ?_ | refine letN_go ?_ | refine boxAtP_go ?_ | refine mkAtP_pair ?_ | refine mkAtP_go ?_ | refine guardP_tt ?_ | refine guardP_tf ?_ | refine guardP_ft ?_ | refine guardP_ff ?_ | refine boolP_tt ?_ | refine boolP_ff ?_ | refine invokeP_go ?_ | refine resP_go ?_ | refine resP_go' ?_ | ((conv => arg 1; simp (disch := omega) only [setTF_eq, argsTF, nth_eq, ld1_new, ld1_old, ld_2, ld_3, ld_4, ld_5, ld_7, wr_1, wr_2, wr_3, wr_4, wr_5, wr_7, wget_same, wget_ne, ofList_get, AV.cells, xOff_ptr, xNil_ptr, xExt_tuple, notV, ib_lss, ib_gtr, ib_leq, ib_geq, ib_eql, ib_neq, List.getElem?_cons_zero, List.getElem?_cons_succ, List.length_cons, List.length_nil, Option.bind_some, Nat.zero_add, Nat.add_zero, if_true, if_false, reduceIte, Nat.reduceEqDiff, Nat.reduceAdd, Nat.reduceMul, Nat.reduceLT, Nat.reduceBEq, decide_true, decide_false, Bool.not_true, Bool.not_false, bd52, al46]); (first | refine optR_go ?_ | refine optP_go ?_ | refine boolP_tt ?_ | refine boolP_ff ?_)) | dsimp only)
  refine optR_of (st_all (by (first | assumption | (simp (disch := omega) only [hget_new, hget_old] <;> rfl))) (by omega) rfl (by decide) (by decide) rfl) ?_
  repeat (with_reducible first | refine optR_go ?_ | refine optP_go ?_ | refine boxP_go ?_ | refine mkP_pair ?_ | refine mkP_go ?_ | refine joinH_go ?_ | refine joinL_go ?_ | refine joinV_go ?_ | refine joinA_go ?_ | refine joinQ_go ?_ | refine letN_go ?_ | refine boxAtP_go ?_ | refine mkAtP_pair ?_ | refine mkAtP_go ?_ | refine guardP_tt ?_ | refine guardP_tf ?_ | refine guardP_ft ?_ | refine guardP_ff ?_ | refine boolP_tt ?_ | refine boolP_ff ?_ | refine invokeP_go ?_ | refine resP_go ?_ | refine resP_go' ?_ | ((conv => arg 1; simp (disch := omega) only [setTF_eq, argsTF, nth_eq, ld1_new, ld1_old, ld_2, ld_3, ld_4, ld_5, ld_7, wr_1, wr_2, wr_3, wr_4, wr_5, wr_7, wget_same, wget_ne, ofList_get, AV.cells, xOff_ptr, xNil_ptr, xExt_tuple, notV, ib_lss, ib_gtr, ib_leq, ib_geq, ib_eql, ib_neq, List.getElem?_cons_zero, List.getElem?_cons_succ, List.length_cons, List.length_nil, Option.bind_some, Nat.zero_add, Nat.add_zero, if_true, if_false, reduceIte, Nat.reduceEqDiff, Nat.reduceAdd, Nat.reduceMul, Nat.reduceLT, Nat.reduceBEq, decide_true, decide_false, Bool.not_true, Bool.not_false, al73]); (first | refine optR_go ?_ | refine optP_go ?_ | refine boolP_tt ?_ | refine boolP_ff ?_)) | dsimp only)
  refine optR_of (st_all (by (first | assumption | (simp (disch := omega) only [hget_new, hget_old] <;> rfl))) (by omega) rfl (by decide) (by decide) rfl) ?_
  repeat (with_reducible first | refine optR_go ?_ | refine optP_go ?_ | refine boxP_go ?_ | refine mkP_pair ?_ | refine mkP_go ?_ | refine joinH_go ?_ | refine joinL_go ?_ | refine joinV_go ?_ | refine joinA_go ?_ | refine joinQ_go ?_ | refine letN_go ?_ | refine boxAtP_go ?_ | refine mkAtP_pair ?_ | refine mkAtP_go ?_ | refine guardP_tt ?_ | refine guardP_tf ?_ | refine guardP_ft ?_ | refine guardP_ff ?_ | refine boolP_tt ?_ | refine boolP_ff ?_ | refine invokeP_go ?_ | refine resP_go ?_ | refine resP_go' ?_ | ((conv => arg 1; simp (disch := omega) only [setTF_eq, argsTF, nth_eq, ld1_new, ld1_old, ld_2, ld_3, ld_4, ld_5, ld_7, wr_1, wr_2, wr_3, wr_4, wr_5, wr_7, wget_same, wget_ne, ofList_get, AV.cells, xOff_ptr, xNil_ptr, xExt_tuple, notV, ib_lss, ib_gtr, ib_leq, ib_geq, ib_eql, ib_neq, List.getElem?_cons_zero, List.getElem?_cons_succ, List.length_cons, List.length_nil, Option.bind_some, Nat.zero_add, Nat.add_zero, if_true, if_false, reduceIte, Nat.reduceEqDiff, Nat.reduceAdd, Nat.reduceMul, Nat.reduceLT, Nat.reduceBEq, decide_true, decide_false, Bool.not_true, Bool.not_false, al74]); (first | refine optR_go ?_ | refine optP_go ?_ | refine boolP_tt ?_ | refine boolP_ff ?_)) | dsimp only)
  refine optR_of (st_all (by (first | assumption | (simp (disch := omega) only [hget_new, hget_old] <;> rfl))) (by omega) rfl (by decide) (by decide) rfl) ?_
  repeat (with_reducible first | refine optR_go ?_ | refine optP_go ?_ | refine boxP_go ?_ | refine mkP_pair ?_ | refine mkP_go ?_ | refine joinH_go ?_ | refine joinL_go ?_ | refine joinV_go ?_ | refine joinA_go ?_ | refine joinQ_go ?_ | refine letN_go ?_ | refine boxAtP_go ?_ | refine mkAtP_pair ?_ | refine mkAtP_go ?_ | refine guardP_tt ?_ | refine guardP_tf ?_ | refine guardP_ft ?_ | refine guardP_ff ?_ | refine boolP_tt ?_ | refine boolP_ff ?_ | refine invokeP_go ?_ | refine resP_go ?_ | refine resP_go' ?_ | ((conv => arg 1; simp (disch := omega) only [setTF_eq, argsTF, nth_eq, ld1_new, ld1_old, ld_2, ld_3, ld_4, ld_5, ld_7, wr_1, wr_2, wr_3, wr_4, wr_5, wr_7, wget_same, wget_ne, ofList_get, AV.cells, xOff_ptr, xNil_ptr, xExt_tuple, notV, ib_lss, ib_gtr, ib_leq, ib_geq, ib_eql, ib_neq, List.getElem?_cons_zero, List.getElem?_cons_succ, List.length_cons, List.length_nil, Option.bind_some, Nat.zero_add, Nat.add_zero, if_true, if_false, reduceIte, Nat.reduceEqDiff, Nat.reduceAdd, Nat.reduceMul, Nat.reduceLT, Nat.reduceBEq, decide_true, decide_false, Bool.not_true, Bool.not_false, bd70a, sv66]); (first | refine optR_go ?_ | refine optP_go ?_ | refine boolP_tt ?_ | refine boolP_ff ?_)) | dsimp only)
  refine (fun (H : ∀ S4, hget (cf G n0) S4 n3 = some (.cells (Tr.ofList [.nilslice] 0 .nil) 1 .own) → aLd1 (cf G n0) S4 (.ptr (n3 + 1) 0) = some (.ptr n3 0) → hget (cf G n0) S4 (n3 + 1 + 1) = some (.map [] 0) →
      aLd1 (cf G n0) S4 (.ptr (n3 + 1 + 1 + 1) 0) = some (.map (n3 + 1 + 1)) → aLd1 (cf G n0) S4 (.ptr (n3 + 1 + 1 + 1 + 1) 0) = some (.func (.func 19) [] [.ptr (n3 + 1 + 1 + 1) 0, .ptr (n3 + 1 + 1 + 1 + 1) 0, .ptr nx 0, .ptr (n3 + 1) 0]) →
      hget (cf G n0) S4 (n3 + 1 + 1 + 1 + 1 + 1) = some (.cells (Tr.ofList [.int .i64 (-1), .bool false] 0 .nil) 2 .own) → Exts (cf G n0) S3 n3 S4 (n3 + 1 + 1 + 1 + 1 + 1 + 1) →
      resP (hbuiltV (cf G n0) S4 (n3 + 1 + 1 + 1 + 1 + 1 + 1) .append [66, 66] [.slice (n3 + 1 + 1 + 1 + 1 + 1) 0 1 1, sl]) S4 (n3 + 1 + 1 + 1 + 1 + 1 + 1) _) => H _ ?_ ?_ ?_ ?_ ?_ ?_ ?_) ?_
  · simp (disch := omega) only [hget_old, hget_new]; rfl
  · simp (disch := omega) only [ld1_old, ld1_new, AV.cells, wget_same]
  · simp (disch := omega) only [hget_old, hget_new]
  · simp (disch := omega) only [ld1_old, ld1_new, AV.cells, wget_same]
  · simp (disch := omega) only [ld1_old, ld1_new, AV.cells, wget_same]
  · simp (disch := omega) only [hget_old, hget_new]
  · exact ⟨by omega, fun b hb => by simp (disch := omega) only [hget_old]⟩
  intro S4 fc fcb fr fp ft fz hE4
  have hsl4 : Sl (cf G n0) S4 sl 2 ((vs ++ ms ++ fs).map krow).flatten bl2 := hsl3.keep fun y hy => hE4.keep y (by have := (hbl2 y hy).2; omega)
  have hk04 : aLd1 (cf G n0) S4 (.ptr nx 0) = some (.ptr bn 0) := by rw [hE4.ld1 _ _ (by omega)]; exact hk03
  have hrd4 : Rd (cf G n0) S4 nx bn bv sv vs := hrd3.ext (hE4.more' (by omega))
  have hE04 : Exts (cf G n0) S nx S4 (n3 + 1 + 1 + 1 + 1 + 1 + 1) := hE03.trans hE4
  rw [app_of _ _ _ _ _ _ _ (.inr (.inr (.inr (.inr (.inr rfl)))))]
  refine append_one_step (el66 G n0) (und66 G n0) fz rfl hsl4 hkl (by simp; omega) (by omega) (by omega) ?_
  intro s5 S5 n5 b5 hle5 hE5 hb5 hb5n hra5
  have hws : [AV.int .i64 (-1), .bool false] :: (vs ++ ms ++ fs).map krow = (base :: (vs ++ ms ++ fs)).map krow := rfl
  rw [hws] at hra5
  have hl5 := hra5.len S5
  rw [List.length_map] at hl5
  have hB : ∃ B : TB, B = ⟨n3 + 1 + 1 + 1, n3 + 1 + 1 + 1 + 1, nx, n3 + 1, bn, bv, n3 + 1 + 1, n3, sv⟩ := ⟨_, rfl⟩
  obtain ⟨B, hB⟩ := hB
  have hkeep5 : ∀ y, y < n3 + 1 + 1 + 1 + 1 + 1 + 1 → hget (cf G n0) S5 y = hget (cf G n0) S4 y := hE5.keep
  have himm5 : Imm G n0 B vs S5 n5 := by
    subst hB
    refine ⟨?_, ?_, ?_, ?_, (hrd4.ext (hE5.more' (by omega))).lift (by omega), ?_⟩
    · rw [ld1_cong (hkeep5 _ (by simp))]; exact fp
    · rw [ld1_cong (hkeep5 _ (by simp))]; exact ft
    · rw [ld1_cong (hkeep5 _ (by simp; omega))]; exact hk04
    · rw [ld1_cong (hkeep5 _ (by simp))]; exact fcb
    · intro y hy
      simp only [im, List.mem_cons, List.not_mem_nil, or_false] at hy
      rcases hy with rfl | rfl | rfl | rfl | rfl | rfl <;> omega
  have hsep5 : Sep G n0 B n5 := by
    subst hB
    refine ⟨by simp only []; omega, by simp only []; omega, by simp only []; omega, by simp only []; omega, by simp only [ne_eq]; omega, ?_, ?_⟩
    · simp only [im, List.mem_cons, List.not_mem_nil, or_false]; omega
    · simp only [im, List.mem_cons, List.not_mem_nil, or_false]; omega
  have hst5 : St G n0 B S5 n5 (fun _ => none) [] [] := by
    subst hB
    refine ⟨⟨[], 0, by rw [hkeep5 _ (by simp)]; exact fr, fun w => rfl⟩, ⟨.nilslice, _, by rw [hkeep5 _ (by simp only []; omega)]; exact fc, by rw [ofList_get]; rfl, Sl.nil _ _ _⟩, fun y hy => (by cases hy), fun y hy => (by cases hy)⟩
  have hb5r : b5 ≠ B.r ∧ b5 ≠ B.c := by subst hB; simp only []; omega
  have hE05 : Exts (cf G n0) S nx S5 n5 := hE04.trans hE5
  have hBc : nx ≤ B.r ∧ nx ≤ B.c := by subst hB; simp only []; omega
  have hmay : ∀ w ∈ base :: (vs ++ ms ++ fs), MayB vs w := by
    intro w hw
    rcases List.mem_cons.1 hw with rfl | hw
    · exact .inl ⟨rfl, rfl⟩
    · simp only [List.mem_append] at hw
      rcases hw with (hw | hw) | hw
      · exact hmv w hw
      · exact hmm w hw
      · exact hmf w hw
  have hlen5 : (base :: (vs ++ ms ++ fs)).length ≤ 301 := by simp; omega
  have htv : tellV B = .func (.func 19) [] [.ptr B.p 0, .ptr B.t 0, .ptr B.nb 0, .ptr B.cb 0] := rfl
  have hBt : B.t = n3 + 1 + 1 + 1 + 1 := by rw [hB]
  have hBcb : B.cb = n3 + 1 := by rw [hB]
  have hbase : (base :: (vs ++ ms ++ fs))[0]? = some base := rfl
  have hmem : ∀ w, w ∈ vs ++ ms ++ fs → ∃ j : Nat, (base :: (vs ++ ms ++ fs))[j]? = some w := fun w hw => List.getElem?_of_mem (List.mem_cons_of_mem _ hw)
  generalize base :: (vs ++ ms ++ fs) = ws at hra5 hl5 hmay hlen5 hbase hmem
  clear fc fcb fr fp ft fz hsl4 hk04 hrd4 hE4 hkeep5 hws hE5 hE04
  repeat (with_reducible first | refine optR_go ?_ | refine optP_go ?_ | refine boxP_go ?_ | refine mkP_pair ?_ | refine mkP_go ?_ | refine joinL_go ?_ | refine joinV_go ?_ | refine joinA_go ?_ | refine joinQ_go ?_ | refine letN_go ?_ | refine boxAtP_go ?_ | refine mkAtP_pair ?_ | refine mkAtP_go ?_ | refine guardP_tt ?_ | refine guardP_tf ?_ | refine guardP_ft ?_ | refine guardP_ff ?_ | refine boolP_tt ?_ | refine boolP_ff ?_ | refine invokeP_go ?_ | refine resP_go ?_ | refine resP_go' ?_ | ((conv => arg 1; simp (disch := omega) only [setTF_eq, argsTF, nth_eq, ld1_new, ld1_old, ld_2, ld_3, ld_4, ld_5, ld_7, wr_1, wr_2, wr_3, wr_4, wr_5, wr_7, wget_same, wget_ne, ofList_get, AV.cells, xOff_ptr, xNil_ptr, xExt_tuple, notV, ib_lss, ib_gtr, ib_leq, ib_geq, ib_eql, ib_neq, List.getElem?_cons_zero, List.getElem?_cons_succ, List.length_cons, List.length_nil, Option.bind_some, Nat.zero_add, Nat.add_zero, if_true, if_false, reduceIte, Nat.reduceEqDiff, Nat.reduceAdd, Nat.reduceMul, Nat.reduceLT, Nat.reduceBEq, decide_true, decide_false, Bool.not_true, Bool.not_false, hl5]); (first | refine optR_go ?_ | refine optP_go ?_ | refine boolP_tt ?_ | refine boolP_ff ?_)) | dsimp only)
  refine joinH_of (fun T S' n => ∃ lk L bl, T 5 = some (.ptr B.cb 0) ∧ Imm G n0 B vs S' n5 ∧ St G n0 B S' n lk L bl ∧ Inv vs lk L ∧ L.length ≤ 100000 ∧ (∀ x, lk x ≠ some (-2)) ∧ (∀ (j : Nat) w, ws[j]? = some w → ∃ k : Int, lk w = some k) ∧ L[0]? = some ⟨-1, false, -1⟩ ∧ Exts (cf G n0) S nx S' n ∧ n5 ≤ n) (fun j hj => ?_) ?_
  · refine loopP_go (fun m T S' n => ∃ (i : Nat) (lk : W → Option Int) (L : List Ck) (bl : List Nat), m = ws.length - i ∧ i ≤ ws.length ∧ T 5 = some (.ptr B.cb 0) ∧ T 7 = some (.ptr B.t 0) ∧ T 26 = some s5 ∧ T 27 = some (.int .i64 (ws.length : Int)) ∧ T 28 = some (.int .i64 (i : Int)) ∧
        Imm G n0 B vs S' n5 ∧ St G n0 B S' n lk L bl ∧ Inv vs lk L ∧ L.length ≤ i * 102 ∧ (∀ x, lk x ≠ some (-2)) ∧ (∀ (j : Nat) w, j < i → ws[j]? = some w → ∃ k : Int, lk w = some k) ∧ (0 < i → L[0]? = some ⟨-1, false, -1⟩) ∧ Exts (cf G n0) S nx S' n ∧ n5 ≤ n ∧ (∀ y ∈ bl, n5 ≤ y) ∧
        hget (cf G n0) S' b5 = hget (cf G n0) S5 b5) ws.length ⟨0, _, [], [], by omega, by omega, ?_, ?_, ?_, ?_, ?_, himm5, hst5, ⟨fun w k h => (by cases h), fun i c h => (by simp at h), fun i c h => (by simp at h)⟩, by simp, fun x h => (by cases h), fun j w h => (by omega), fun h => (by omega), hE05, Nat.le_refl _, fun y hy => (by cases hy), rfl⟩ ?_
    · simp only [setTF_eq, reduceIte, Nat.reduceEqDiff, hBcb]
    · simp only [setTF_eq, reduceIte, Nat.reduceEqDiff, hBt]
    · simp only [setTF_eq, reduceIte, Nat.reduceEqDiff]
    · simp only [setTF_eq, reduceIte, Nat.reduceEqDiff]
    · simp only [setTF_eq, reduceIte, Nat.reduceEqDiff]; rfl
    rintro m T S' n ⟨i, lk, L, bl, rfl, hi, t5, t7, t26, t27, t28, himm, hst, hinv, hLi, hnb, hhas, hL0, hE, hn5, hbl5, hb5k⟩
    repeat (with_reducible first | refine optR_go ?_ | refine optP_go ?_ | refine boxP_go ?_ | refine mkP_pair ?_ | refine mkP_go ?_ | refine joinH_go ?_ | refine joinL_go ?_ | refine joinV_go ?_ | refine joinA_go ?_ | refine joinQ_go ?_ | refine letN_go ?_ | refine boxAtP_go ?_ | refine mkAtP_pair ?_ | refine mkAtP_go ?_ | refine guardP_tt ?_ | refine guardP_tf ?_ | refine guardP_ft ?_ | refine guardP_ff ?_ | refine boolP_tt ?_ | refine boolP_ff ?_ | refine invokeP_go ?_ | refine resP_go ?_ | refine resP_go' ?_ | ((conv => arg 1; simp (disch := omega) only [setTF_eq, argsTF, nth_eq, ld1_new, ld1_old, ld_2, ld_3, ld_4, ld_5, ld_7, wr_1, wr_2, wr_3, wr_4, wr_5, wr_7, wget_same, wget_ne, ofList_get, AV.cells, xOff_ptr, xNil_ptr, xExt_tuple, notV, ib_lss, ib_gtr, ib_leq, ib_geq, ib_eql, ib_neq, List.getElem?_cons_zero, List.getElem?_cons_succ, List.length_cons, List.length_nil, Option.bind_some, Nat.zero_add, Nat.add_zero, if_true, if_false, reduceIte, Nat.reduceEqDiff, Nat.reduceAdd, Nat.reduceMul, Nat.reduceLT, Nat.reduceBEq, decide_true, decide_false, Bool.not_true, Bool.not_false, t27, t28]); (first | refine optR_go ?_ | refine optP_go ?_ | refine boolP_tt ?_ | refine boolP_ff ?_)) | dsimp only)
    refine boolP_dec (fun hlt => ?_) (fun hge => ?_)
    · have hlt : i < ws.length := by omega
      have hwi : ws[i]? = some ws[i] := List.getElem?_eq_getElem hlt
      have hmw := hmay _ (List.getElem_mem hlt)
      generalize ws[i] = w at hwi hmw
      have hri : (ws.map krow)[i]? = some (krow w) := by rw [List.getElem?_map, hwi]; rfl
      have hix := hra5.ix i (by simpa using hlt)
      have q0 : aLd1 (cf G n0) S' (.ptr b5 (i * 2)) = some (.int .i64 w.on) := by rw [ld1_cong hb5k]; exact hra5.cell i _ 0 _ hri rfl
      have q1 : aLd1 (cf G n0) S' (.ptr b5 (i * 2 + 1)) = some (.bool w.no) := by rw [ld1_cong hb5k]; exact hra5.cell i _ 1 _ hri rfl
      have hnn : (cf G n0).n0 ≤ n := by omega
      have hlt7 := himm.lt
      have hti : B.t < n5 := himm.low _ (by simp [im])
      have hkey : AV.agg [.int .i64 w.on, .bool w.no] = key w := rfl
      repeat (with_reducible first | refine optR_go ?_ | refine optP_go ?_ | refine boxP_go ?_ | refine mkP_pair ?_ | refine mkP_go ?_ | refine joinH_go ?_ | refine joinL_go ?_ | refine joinV_go ?_ | refine joinA_go ?_ | refine joinQ_go ?_ | refine letN_go ?_ | refine boxAtP_go ?_ | refine mkAtP_pair ?_ | refine mkAtP_go ?_ | refine guardP_tt ?_ | refine guardP_tf ?_ | refine guardP_ft ?_ | refine guardP_ff ?_ | refine boolP_tt ?_ | refine boolP_ff ?_ | refine invokeP_go ?_ | refine resP_go ?_ | refine resP_go' ?_ | ((conv => arg 1; simp (disch := omega) only [setTF_eq, argsTF, nth_eq, ld1_new, ld1_old, ld_2, ld_3, ld_4, ld_5, ld_7, wr_1, wr_2, wr_3, wr_4, wr_5, wr_7, wget_same, wget_ne, ofList_get, AV.cells, xOff_ptr, xNil_ptr, xExt_tuple, notV, ib_lss, ib_gtr, ib_leq, ib_geq, ib_eql, ib_neq, List.getElem?_cons_zero, List.getElem?_cons_succ, List.length_cons, List.length_nil, Option.bind_some, Nat.zero_add, Nat.add_zero, if_true, if_false, reduceIte, Nat.reduceEqDiff, Nat.reduceAdd, Nat.reduceMul, Nat.reduceLT, Nat.reduceBEq, decide_true, decide_false, Bool.not_true, Bool.not_false, t26, t28, hix, q0, q1, al70]); (first | refine optR_go ?_ | refine optP_go ?_ | refine boolP_tt ?_ | refine boolP_ff ?_)) | dsimp only)
      refine optR_of (st_all (by (first | assumption | (simp (disch := omega) only [hget_new, hget_old] <;> rfl))) (by omega) rfl (by decide) (by decide) rfl) ?_
      repeat (with_reducible first | refine optR_go ?_ | refine optP_go ?_ | refine boxP_go ?_ | refine mkP_pair ?_ | refine mkP_go ?_ | refine joinH_go ?_ | refine joinL_go ?_ | refine joinV_go ?_ | refine joinA_go ?_ | refine joinQ_go ?_ | refine letN_go ?_ | refine boxAtP_go ?_ | refine mkAtP_pair ?_ | refine mkAtP_go ?_ | refine guardP_tt ?_ | refine guardP_tf ?_ | refine guardP_ft ?_ | refine guardP_ff ?_ | refine boolP_tt ?_ | refine boolP_ff ?_ | refine invokeP_go ?_ | refine resP_go ?_ | refine resP_go' ?_ | ((conv => arg 1; simp (disch := omega) only [setTF_eq, argsTF, nth_eq, ld1_new, ld1_old, ld_2, ld_3, ld_4, ld_5, ld_7, wr_1, wr_2, wr_3, wr_4, wr_5, wr_7, wget_same, wget_ne, ofList_get, AV.cells, xOff_ptr, xNil_ptr, xExt_tuple, notV, ib_lss, ib_gtr, ib_leq, ib_geq, ib_eql, ib_neq, List.getElem?_cons_zero, List.getElem?_cons_succ, List.length_cons, List.length_nil, Option.bind_some, Nat.zero_add, Nat.add_zero, if_true, if_false, reduceIte, Nat.reduceEqDiff, Nat.reduceAdd, Nat.reduceMul, Nat.reduceLT, Nat.reduceBEq, decide_true, decide_false, Bool.not_true, Bool.not_false, t7, hlt7, hkey, htv]); (first | refine optR_go ?_ | refine optP_go ?_ | refine boolP_tt ?_ | refine boolP_ff ?_)) | dsimp only)
      have hw102 : (w.on + 2).toNat ≤ 102 := by
        rcases hmw with ⟨a, _⟩ | ⟨q, a, b⟩ <;> omega
      refine (fun (H : ∀ S6, Exts (cf G n0) S' n S6 (n + 1) → callP (cf G n0) 19 ([] ++ [key w] ++ [.ptr B.p 0, .ptr B.t 0, .ptr B.nb 0, .ptr B.cb 0]) S6 (n + 1) _ _) => H _ ?_) ?_
      · exact ⟨by omega, fun b hb => by simp (disch := omega) only [hget_old]⟩
      intro S6 hE6
      have himm6 : Imm G n0 B vs S6 n5 := himm.keep fun y hy => hE6.keep y (by have := himm.low y hy; omega)
      have hst6 : St G n0 B S6 (n + 1) lk L bl := hst.keep (hE6.keep _ (by have := hsep5.rl; omega)) (hE6.keep _ (by have := hsep5.cl; omega)) (fun y hy => hE6.keep y (hst.lt y hy)) (Nat.le_succ _)
      refine (tell_call hd _ w S6 (n + 1) lk L bl rfl (by omega) (hsep5.lift (by omega)) (himm6.lift (by omega)) hst6 hinv hmw (fun x hx => absurd hx (hnb x)) (by omega) (by omega)).mono ?_ (fun _ _ _ h => h.elim)
      rintro u S7 n7 ⟨k, lk7, L7, bl7, rfl, htold, hst7, hle7, hfr7, hsub7⟩
      have e1 : aIBin .add (.int .i64 (i : Int)) (.int .i64 1) = some (.int .i64 ((i + 1 : Nat) : Int)) := by rw [ib_add (by omega) (by omega)]; rfl
      have hfr : ∀ y, y < n → y ≠ B.r → y ≠ B.c → y ∉ bl → hget (cf G n0) S7 y = hget (cf G n0) S' y := fun y a b c d => (hfr7 y (by omega) b c d).trans (hE6.keep y a)
      repeat (with_reducible first | refine optR_go ?_ | refine optP_go ?_ | refine boxP_go ?_ | refine mkP_pair ?_ | refine mkP_go ?_ | refine joinH_go ?_ | refine joinL_go ?_ | refine joinV_go ?_ | refine joinA_go ?_ | refine joinQ_go ?_ | refine letN_go ?_ | refine boxAtP_go ?_ | refine mkAtP_pair ?_ | refine mkAtP_go ?_ | refine guardP_tt ?_ | refine guardP_tf ?_ | refine guardP_ft ?_ | refine guardP_ff ?_ | refine boolP_tt ?_ | refine boolP_ff ?_ | refine invokeP_go ?_ | refine resP_go ?_ | refine resP_go' ?_ | ((conv => arg 1; simp (disch := omega) only [setTF_eq, argsTF, nth_eq, ld1_new, ld1_old, ld_2, ld_3, ld_4, ld_5, ld_7, wr_1, wr_2, wr_3, wr_4, wr_5, wr_7, wget_same, wget_ne, ofList_get, AV.cells, xOff_ptr, xNil_ptr, xExt_tuple, notV, ib_lss, ib_gtr, ib_leq, ib_geq, ib_eql, ib_neq, List.getElem?_cons_zero, List.getElem?_cons_succ, List.length_cons, List.length_nil, Option.bind_some, Nat.zero_add, Nat.add_zero, if_true, if_false, reduceIte, Nat.reduceEqDiff, Nat.reduceAdd, Nat.reduceMul, Nat.reduceLT, Nat.reduceBEq, decide_true, decide_false, Bool.not_true, Bool.not_false, t28, e1]); (first | refine optR_go ?_ | refine optP_go ?_ | refine boolP_tt ?_ | refine boolP_ff ?_)) | dsimp only)
      refine ⟨ws.length - (i + 1), by omega, i + 1, lk7, L7, bl7, rfl, by omega, ?_, ?_, ?_, ?_, ?_, himm.keep fun y hy => ?_, hst7, htold.inv, ?_, fun x hx => ?_, fun q v hq hv => ?_, fun _ => ?_, ⟨by have := hE.le; omega, fun y hy => ?_⟩, by omega, fun y hy => ?_, ?_⟩
      · simp only [setTF_eq, reduceIte, Nat.reduceEqDiff]; exact t5
      · simp only [setTF_eq, reduceIte, Nat.reduceEqDiff]; exact t7
      · simp only [setTF_eq, reduceIte, Nat.reduceEqDiff]; exact t26
      · simp only [setTF_eq, reduceIte, Nat.reduceEqDiff]; exact t27
      · simp only [setTF_eq, reduceIte, Nat.reduceEqDiff]
      · have := himm.low y hy
        exact hfr y (by omega) (fun e => hsep5.ri (e ▸ hy)) (fun e => hsep5.ci (e ▸ hy)) (fun e => by have := hbl5 y e; omega)
      · obtain ⟨e, h3, h4⟩ := htold.pre
        rw [h3, List.length_append]; omega
      · exact hnb x ((htold.begun x).1 hx)
      · by_cases e : q = i
        · subst e
          rw [hwi] at hv
          cases hv
          exact ⟨k, htold.here.1⟩
        · obtain ⟨k', hk'⟩ := hhas q v (by omega) hv
          exact ⟨k', htold.mono v k' hk' (fun e => hnb v (by rw [hk', e]))⟩
      · obtain ⟨e, h3, h4⟩ := htold.pre
        by_cases hi0 : 0 < i
        · have := hL0 hi0
          rw [h3, List.getElem?_append_left (List.getElem?_eq_some_iff.1 this).1]; exact this
        · have hi0 : i = 0 := by omega
          subst hi0
          rw [hbase] at hwi
          cases hwi
          have hL : L = [] := List.length_eq_zero_iff.1 (by omega)
          subst hL
          obtain ⟨hk1, p, rfl⟩ := htold.here
          rcases htold.inv.at' base _ hk1 with h | ⟨p', c, a1, a2, a3, a4⟩
          · omega
          · have h4 : e.length ≤ 1 := by simpa [base] using h4
            rw [List.nil_append] at h3
            subst h3
            have : p' = 0 := by have := (List.getElem?_eq_some_iff.1 a2).1; omega
            subst this
            rcases htold.inv.par 0 c a2 with ⟨b1, b2, b3⟩ | ⟨_, _, p2, _, _, _, _, h, _⟩
            · rw [a2]
              obtain ⟨x, y, z⟩ := c
              simp only at b1 b2 b3
              rw [b1, b2, b3]
            · omega
      · have := hE.le
        rw [hfr y (by omega) (by omega) (by omega) (fun e => by have := hbl5 y e; have := hE05.le; omega)]
        exact hE.keep y hy
      · rcases hsub7 y hy with h | h
        · exact hbl5 y h
        · omega
      · rw [hfr b5 (by omega) hb5r.1 hb5r.2 (fun e => by have := hbl5 b5 e; omega)]
        exact hb5k
    · have hi : i = ws.length := by omega
      subst hi
      refine hj _ _ _ ⟨lk, L, bl, ?_, himm, hst, hinv, by omega, hnb, fun q v hv => hhas q v (List.getElem?_eq_some_iff.1 hv).1 hv, hL0 (by have := (List.getElem?_eq_some_iff.1 hbase).1; omega), hE, hn5⟩
      simp only [setTF_eq, reduceIte, Nat.reduceEqDiff]; exact t5
  · rintro T S' n ⟨lk, L, bl, t5, himm, hst, hinv, hLm, hnb, hhas, hL0, hE, hn5⟩
    obtain ⟨s, cc, hc1, hc2, hc3⟩ := hst.cl
    have hlc := himm.lc
    obtain ⟨b, _, hrows⟩ := hc3.rows (t := 50) (by decide) (rows3 L) (und50 G n0) (by rw [List.length_map]; omega) hst.lt
    repeat (with_reducible first | refine optR_go ?_ | refine optP_go ?_ | refine boxP_go ?_ | refine mkP_pair ?_ | refine mkP_go ?_ | refine joinH_go ?_ | refine joinL_go ?_ | refine joinV_go ?_ | refine joinA_go ?_ | refine joinQ_go ?_ | refine letN_go ?_ | refine boxAtP_go ?_ | refine mkAtP_pair ?_ | refine mkAtP_go ?_ | refine guardP_tt ?_ | refine guardP_tf ?_ | refine guardP_ft ?_ | refine guardP_ff ?_ | refine boolP_tt ?_ | refine boolP_ff ?_ | refine invokeP_go ?_ | refine resP_go ?_ | refine resP_go' ?_ | ((conv => arg 1; simp (disch := omega) only [setTF_eq, argsTF, nth_eq, ld1_new, ld1_old, ld_2, ld_3, ld_4, ld_5, ld_7, wr_1, wr_2, wr_3, wr_4, wr_5, wr_7, wget_same, wget_ne, ofList_get, AV.cells, xOff_ptr, xNil_ptr, xExt_tuple, notV, ib_lss, ib_gtr, ib_leq, ib_geq, ib_eql, ib_neq, List.getElem?_cons_zero, List.getElem?_cons_succ, List.length_cons, List.length_nil, Option.bind_some, Nat.zero_add, Nat.add_zero, if_true, if_false, reduceIte, Nat.reduceEqDiff, Nat.reduceAdd, Nat.reduceMul, Nat.reduceLT, Nat.reduceBEq, decide_true, decide_false, Bool.not_true, Bool.not_false, t5, hlc]); (first | refine optR_go ?_ | refine optP_go ?_ | refine boolP_tt ?_ | refine boolP_ff ?_)) | dsimp only)
    refine ⟨B.c, s, b, L, rfl, ?_, by rw [ld1_eq, hc1]; exact hc2, hrows, ⟨hL0, fun i j a b' ha hb' e1 e2 => ?_, hinv.par, fun w hw => ?_, hLm⟩, hE⟩
    · have := hsep5.cl
      omega
    · have h1 := hinv.all i a ha
      have h2 := hinv.all j b' hb'
      rw [e1, e2, h2] at h1
      simp at h1
      omega
    · obtain ⟨j, hj⟩ := hmem w hw
      obtain ⟨k, hk⟩ := hhas j w hj
      rcases hinv.at' w k hk with h | ⟨i, c, _, a2, a3⟩
      · exact absurd (by rw [hk, h]) (hnb w)
      · exact ⟨i, c, a2, a3⟩
end
end
end Go.Proofs.Ytkmmngiodbbjcaa

/-! ## The walk of Enabled -/
namespace Go.Proofs.Ytkmmngiodbbjcaa
open Go.AE
noncomputable section
/-- a slice of words, as it is read -/
structure RdU (C : Cfg) (S : Tr AObj) (lim b o : Nat) (wv : AV) (xs : List Int) : Prop where
  hb : xs ≠ [] → b < lim
  many : xs.length ≤ 1000
  len : ∀ S', builtV C S' .len [23] [wv] = some (.int .i64 (xs.length : Int))
  ix : ∀ (i : Nat), i < xs.length → ixSV 1 wv (.int .i64 (i : Int)) = some (.ptr b (o + i))
  cell : ∀ (i : Nat) x, xs[i]? = some x → aLd1 C S (.ptr b (o + i)) = some (.int .u64 x)
theorem RdU.ext {C : Cfg} {S S' : Tr AObj} {lim b o nx' : Nat} {wv : AV} {xs : List Int} (h : RdU C S lim b o wv xs) (k : Exts C S lim S' nx') : RdU C S' lim b o wv xs :=
  ⟨h.hb, h.many, h.len, h.ix, fun i x hi => by rw [k.ld1 _ _ (h.hb (fun e => by rw [e] at hi; cases hi))]; exact h.cell i x hi⟩
def wordOn (xs : List Int) (on : Int) : Bool := decide (xs[on.toNat]? = some 1)
def enVal (xs : List Int) (bs : List Bool) (c : Ck) : Bool := if c.par < 0 then true else (bs[c.par.toNat]?.getD false) && (wordOn xs c.on != c.no)
def EnOk (L : List Ck) (xs : List Int) (bs : List Bool) : Prop := ∀ (k : Nat) c, k < bs.length → L[k]? = some c → bs[k]? = some (enVal xs bs c)
def ParOk (L : List Ck) : Prop := ∀ (i : Nat) c, L[i]? = some c → c.par = -1 ∨ ∃ p o : Nat, c.par = (p : Int) ∧ p < i ∧ c.on = (o : Int)
theorem EnOk.add {L : List Ck} {xs : List Int} {bs : List Bool} (h : EnOk L xs bs) (hp : ParOk L) {c : Ck} (hc : L[bs.length]? = some c) : EnOk L xs (bs ++ [enVal xs bs c]) := by
  have hsame : ∀ (k : Nat) c, L[k]? = some c → k ≤ bs.length → enVal xs (bs ++ [enVal xs bs ⟨0, false, 0⟩]) c = enVal xs bs c ∧ ∀ z, enVal xs (bs ++ [z]) c = enVal xs bs c := by
    intro k c hk hle
    have : ∀ z, enVal xs (bs ++ [z]) c = enVal xs bs c := by
      intro z
      unfold enVal
      rcases hp k c hk with h | ⟨p, o, h, hlt, _⟩
      · simp [h]
      · rw [h]
        simp only [Int.toNat_natCast]
        rw [List.getElem?_append_left (by omega)]
    exact ⟨this _, this⟩
  intro k c' hk hc'
  rw [List.length_append] at hk
  simp at hk
  rw [(hsame k c' hc' (by omega)).2]
  by_cases e : k < bs.length
  · rw [List.getElem?_append_left e]; exact h k c' e hc'
  · have : k = bs.length := by omega
    subst this
    rw [hc] at hc'
    cases hc'
    simp
section
variable {G : Tr AObj} {n0 : Nat} {S S' : Tr AObj} {nx nx' lim : Nat}
theorem brow_flat (bs : List Bool) : (bs.map fun x => [AV.bool x]).flatten = bs.map AV.bool := by
  induction bs with
  | nil => rfl
  | cons a l ih => simp [ih]
theorem en_tail {g : HK} {T : TF} {s : AV} {zb : Bool} {i n : Nat} {l : List AV} {bl : List Nat} (hn : (cf G n0).n0 ≤ nx) (hnx : nx ≤ n) (t5 : T 5 = some s) (t8 : T 8 = some (.bool zb)) (t16 : T 16 = some (.int .i64 (i : Int))) (hi : i ≤ 100000) (hl : l.length ≤ 100000)
    (hSl : Sl (cf G n0) S' s 1 l bl) (hbl : ∀ y ∈ bl, nx ≤ y ∧ y < n) (hE : Exts (cf G n0) S nx S' n)
    (hg : ∀ s2 S2, Sl (cf G n0) S2 s2 1 (l ++ [.bool zb]) ((n + 1) :: bl) → Exts (cf G n0) S nx S2 (n + 1 + 1) → g (setTF (setTF T 5 s2) 16 (.int .i64 ((i + 1 : Nat) : Int))) S2 (n + 1 + 1)) :
    optP (T 5) fun t62 => optP (T 8) fun t63 => optR (sliceV (cf G n0) 53 1 [(0, t63)] n) fun r64 => mkP (cf G n0) S' n r64.1 r64.2 fun v65 S66 n67 => resP (hbuiltV (cf G n0) S66 n67 .append [53, 53] [t62, v65]) S66 n67 fun v68 S69 n70 => optP (setTF T 5 v68 16) fun t27 => optR (aIBin .add t27 (.int .i64 1)) fun v28 => g (setTF (setTF T 5 v68) 16 v28) S69 n70 := by
  have e1 : aIBin .add (.int .i64 (i : Int)) (.int .i64 1) = some (.int .i64 ((i + 1 : Nat) : Int)) := by rw [ib_add (by omega) (by omega)]; rfl
  repeat (with_reducible first | refine optR_go ?_ | refine optP_go ?_ | refine boxP_go ?_ | refine mkP_pair ?_ | refine mkP_go ?_ | refine joinH_go ?_ | refine joinL_go ?_ | refine joinV_go ?_ | refine joinA_go ?_ | refine joinQ_go ?_ | refine letN_go ?_ | refine boxAtP_go ?_ | refine mkAtP_pair ?_ | refine mkAtP_go ?_ | refine guardP_tt ?_ | refine guardP_tf ?_ | refine guardP_ft ?_ | refine guardP_ff ?_ | refine boolP_tt ?_ | refine boolP_ff ?_ | refine invokeP_go ?_ | refine resP_go ?_ | refine resP_go' ?_ | ((conv => arg 1; simp (disch := omega) only [setTF_eq, argsTF, nth_eq, ld1_new, ld1_old, ld_2, ld_3, ld_4, ld_5, ld_7, wr_1, wr_2, wr_3, wr_4, wr_5, wr_7, wget_same, wget_ne, ofList_get, AV.cells, xOff_ptr, xNil_ptr, xExt_tuple, notV, ib_lss, ib_gtr, ib_leq, ib_geq, ib_eql, ib_neq, List.getElem?_cons_zero, List.getElem?_cons_succ, List.length_cons, List.length_nil, Option.bind_some, Nat.zero_add, Nat.add_zero, if_true, if_false, reduceIte, Nat.reduceEqDiff, Nat.reduceAdd, Nat.reduceMul, Nat.reduceLT, Nat.reduceBEq, decide_true, decide_false, Bool.not_true, Bool.not_false, t5, t8, sv53]); (first | refine optR_go ?_ | refine optP_go ?_ | refine boolP_tt ?_ | refine boolP_ff ?_)) | dsimp only)
  refine push_step (nx := nx) (S0 := S) (.inr (.inr (.inr (.inr (.inl rfl))))) (el53 G n0) hSl (fun y hy => ?_) (hget_new (by omega)) ?_ ?_ ?_ (by omega) (fun y hy => ?_) ?_ ?_
  · have := hbl y hy
    simp (disch := omega) only [hget_old]
  · rfl
  · rfl
  · simp; omega
  · have := hbl y hy; omega
  · exact hE.hset (by omega) (by omega) (by omega)
  · intro s2 S2 h1 h2 _
    repeat (with_reducible first | refine optR_go ?_ | refine optP_go ?_ | refine boxP_go ?_ | refine mkP_pair ?_ | refine mkP_go ?_ | refine joinH_go ?_ | refine joinL_go ?_ | refine joinV_go ?_ | refine joinA_go ?_ | refine joinQ_go ?_ | refine letN_go ?_ | refine boxAtP_go ?_ | refine mkAtP_pair ?_ | refine mkAtP_go ?_ | refine guardP_tt ?_ | refine guardP_tf ?_ | refine guardP_ft ?_ | refine guardP_ff ?_ | refine boolP_tt ?_ | refine boolP_ff ?_ | refine invokeP_go ?_ | refine resP_go ?_ | refine resP_go' ?_ | ((conv => arg 1; simp (disch := omega) only [setTF_eq, argsTF, nth_eq, ld1_new, ld1_old, ld_2, ld_3, ld_4, ld_5, ld_7, wr_1, wr_2, wr_3, wr_4, wr_5, wr_7, wget_same, wget_ne, ofList_get, AV.cells, xOff_ptr, xNil_ptr, xExt_tuple, notV, ib_lss, ib_gtr, ib_leq, ib_geq, ib_eql, ib_neq, List.getElem?_cons_zero, List.getElem?_cons_succ, List.length_cons, List.length_nil, Option.bind_some, Nat.zero_add, Nat.add_zero, if_true, if_false, reduceIte, Nat.reduceEqDiff, Nat.reduceAdd, Nat.reduceMul, Nat.reduceLT, Nat.reduceBEq, decide_true, decide_false, Bool.not_true, Bool.not_false, t16, e1]); (first | refine optR_go ?_ | refine optP_go ?_ | refine boolP_tt ?_ | refine boolP_ff ?_)) | dsimp only)
    exact hg s2 S2 h1 h2
def EnI (G : Tr AObj) (n0 : Nat) (S : Tr AObj) (nx : Nat) (L : List Ck) (xs : List Int) (wv s : AV) (m : Nat) (T : TF) (S' : Tr AObj) (n : Nat) : Prop := ∃ (bs : List Bool) (s' : AV) (bl : List Nat), m = L.length - bs.length ∧ bs.length ≤ L.length ∧ EnOk L xs bs ∧ T 1 = some wv ∧ T 5 = some s' ∧ T 14 = some s ∧ T 15 = some (.int .i64 (L.length : Int)) ∧ T 16 = some (.int .i64 (bs.length : Int)) ∧
        Sl (cf G n0) S' s' 1 (bs.map AV.bool) bl ∧ (∀ y ∈ bl, nx ≤ y ∧ y < n) ∧ Exts (cf G n0) S nx S' n
theorem enabled_call (hn : (cf G n0).n0 ≤ nx) {c b wb wo : Nat} {s wv : AV} {L : List Ck} {xs : List Int} (hc : c < nx) (hcs : aLd1 (cf G n0) S (.ptr c 0) = some s) (hr : RdA (cf G n0) S nx b s 50 3 (L.map crow)) (hw : RdU (cf G n0) S nx wb wo wv xs) (hp : ParOk L) (hL : L.length ≤ 100000) :
    callP (cf G n0) 9 [.ptr c 0, wv] S nx (fun u S' nx' => ∃ bs b', bs.length = L.length ∧ EnOk L xs bs ∧ RdA (cf G n0) S' nx' b' u 53 1 (bs.map fun x => [AV.bool x]) ∧ Exts (cf G n0) S nx S' nx') (fun _ _ _ => False) := by
  refine callP_fn (R9_chk G n0) rfl ?_
  rw [R9_eq]
  unfold R9
  have hlen := hr.len
  rw [List.length_map] at hlen
  repeat (with_reducible first | refine optR_go ?_ | refine optP_go ?_ | refine boxP_go ?_ | refine mkP_pair ?_ | refine mkP_go ?_ | refine joinL_go ?_ | refine joinV_go ?_ | refine joinA_go ?_ | refine joinQ_go ?_ | refine letN_go ?_ | refine boxAtP_go ?_ | refine mkAtP_pair ?_ | refine mkAtP_go ?_ | refine guardP_tt ?_ | refine guardP_tf ?_ | refine guardP_ft ?_ | refine guardP_ff ?_ | refine boolP_tt ?_ | refine boolP_ff ?_ | refine invokeP_go ?_ | refine resP_go ?_ | refine resP_go' ?_ | ((conv => arg 1; simp (disch := omega) only [setTF_eq, argsTF, nth_eq, ld1_new, ld1_old, ld_2, ld_3, ld_4, ld_5, ld_7, wr_1, wr_2, wr_3, wr_4, wr_5, wr_7, wget_same, wget_ne, ofList_get, AV.cells, xOff_ptr, xNil_ptr, xExt_tuple, notV, ib_lss, ib_gtr, ib_leq, ib_geq, ib_eql, ib_neq, List.getElem?_cons_zero, List.getElem?_cons_succ, List.length_cons, List.length_nil, Option.bind_some, Nat.zero_add, Nat.add_zero, if_true, if_false, reduceIte, Nat.reduceEqDiff, Nat.reduceAdd, Nat.reduceMul, Nat.reduceLT, Nat.reduceBEq, decide_true, decide_false, Bool.not_true, Bool.not_false, eq46, hcs, hlen]); (first | refine optR_go ?_ | refine optP_go ?_ | refine boolP_tt ?_ | refine boolP_ff ?_)) | dsimp only)
  refine joinH_go ?_
  repeat (with_reducible first | refine optR_go ?_ | refine optP_go ?_ | refine boxP_go ?_ | refine mkP_pair ?_ | refine mkP_go ?_ | refine joinL_go ?_ | refine joinV_go ?_ | refine joinA_go ?_ | refine joinQ_go ?_ | refine letN_go ?_ | refine boxAtP_go ?_ | refine mkAtP_pair ?_ | refine mkAtP_go ?_ | refine guardP_tt ?_ | refine guardP_tf ?_ | refine guardP_ft ?_ | refine guardP_ff ?_ | refine boolP_tt ?_ | refine boolP_ff ?_ | refine invokeP_go ?_ | refine resP_go ?_ | refine resP_go' ?_ | ((conv => arg 1; simp (disch := omega) only [setTF_eq, argsTF, nth_eq, ld1_new, ld1_old, ld_2, ld_3, ld_4, ld_5, ld_7, wr_1, wr_2, wr_3, wr_4, wr_5, wr_7, wget_same, wget_ne, ofList_get, AV.cells, xOff_ptr, xNil_ptr, xExt_tuple, notV, ib_lss, ib_gtr, ib_leq, ib_geq, ib_eql, ib_neq, List.getElem?_cons_zero, List.getElem?_cons_succ, List.length_cons, List.length_nil, Option.bind_some, Nat.zero_add, Nat.add_zero, if_true, if_false, reduceIte, Nat.reduceEqDiff, Nat.reduceAdd, Nat.reduceMul, Nat.reduceLT, Nat.reduceBEq, decide_true, decide_false, Bool.not_true, Bool.not_false, hcs, hlen]); (first | refine optR_go ?_ | refine optP_go ?_ | refine boolP_tt ?_ | refine boolP_ff ?_)) | dsimp only)
  refine joinH_of (fun T S' n => ∃ bs s' bl, bs.length = L.length ∧ EnOk L xs bs ∧ T 5 = some s' ∧ Sl (cf G n0) S' s' 1 (bs.map AV.bool) bl ∧ (∀ y ∈ bl, nx ≤ y ∧ y < n) ∧ Exts (cf G n0) S nx S' n) (fun j hj => ?_) ?_
  · refine loopP_go (EnI G n0 S nx L xs wv s) L.length ⟨[], .nilslice, [], by simp, by simp, fun k c h => (by simp at h), ?_, ?_, ?_, ?_, ?_, Sl.nil _ _ _, fun y hy => (by cases hy), Exts.refl _ _⟩ ?_
    · simp only [setTF_eq, reduceIte, Nat.reduceEqDiff, argsTF, nth_eq, List.getElem?_cons_zero, List.getElem?_cons_succ]
    · simp only [setTF_eq, reduceIte, Nat.reduceEqDiff]
    · simp only [setTF_eq, reduceIte, Nat.reduceEqDiff]
    · simp only [setTF_eq, reduceIte, Nat.reduceEqDiff]
    · simp only [setTF_eq, reduceIte, Nat.reduceEqDiff]; rfl
    rintro m T S' n ⟨bs, s', bl, rfl, hi, hEn, t1, t5, t14, t15, t16, hSl, hbl, hE⟩
    repeat (with_reducible first | refine optR_go ?_ | refine optP_go ?_ | refine boxP_go ?_ | refine mkP_pair ?_ | refine mkP_go ?_ | refine joinL_go ?_ | refine joinV_go ?_ | refine joinA_go ?_ | refine joinQ_go ?_ | refine letN_go ?_ | refine boxAtP_go ?_ | refine mkAtP_pair ?_ | refine mkAtP_go ?_ | refine guardP_tt ?_ | refine guardP_tf ?_ | refine guardP_ft ?_ | refine guardP_ff ?_ | refine boolP_tt ?_ | refine boolP_ff ?_ | refine invokeP_go ?_ | refine resP_go ?_ | refine resP_go' ?_ | ((conv => arg 1; simp (disch := omega) only [setTF_eq, argsTF, nth_eq, ld1_new, ld1_old, ld_2, ld_3, ld_4, ld_5, ld_7, wr_1, wr_2, wr_3, wr_4, wr_5, wr_7, wget_same, wget_ne, ofList_get, AV.cells, xOff_ptr, xNil_ptr, xExt_tuple, notV, ib_lss, ib_gtr, ib_leq, ib_geq, ib_eql, ib_neq, List.getElem?_cons_zero, List.getElem?_cons_succ, List.length_cons, List.length_nil, Option.bind_some, Nat.zero_add, Nat.add_zero, if_true, if_false, reduceIte, Nat.reduceEqDiff, Nat.reduceAdd, Nat.reduceMul, Nat.reduceLT, Nat.reduceBEq, decide_true, decide_false, Bool.not_true, Bool.not_false, t15, t16]); (first | refine optR_go ?_ | refine optP_go ?_ | refine boolP_tt ?_ | refine boolP_ff ?_)) | dsimp only)
    refine joinH_go ?_
    refine boolP_dec (fun hlt => ?_) (fun hge => ?_)
    · have hlt : bs.length < L.length := by omega
      have hci : L[bs.length]? = some L[bs.length] := List.getElem?_eq_getElem hlt
      generalize L[bs.length] = ck at hci
      have hri : (L.map crow)[bs.length]? = some (crow ck) := by rw [List.getElem?_map, hci]; rfl
      have hix := hr.ix bs.length (by simpa using hlt)
      have hr' := hr.ext hE
      have k0 := hr'.cell bs.length _ 0 _ hri rfl
      have k1 := hr'.cell bs.length _ 1 _ hri rfl
      have k2 := hr'.cell bs.length _ 2 _ hri rfl
      rw [Nat.add_zero] at k0
      have hle := hE.le
      have hadd := hEn.add hp hci
      have hnn : (cf G n0).n0 ≤ n := by omega
      have e1 : aIBin .add (.int .i64 (bs.length : Int)) (.int .i64 1) = some (.int .i64 ((bs.length + 1 : Nat) : Int)) := by rw [ib_add (by omega) (by omega)]; rfl
      -- what is left behind the value
      repeat (with_reducible first | refine optR_go ?_ | refine optP_go ?_ | refine boxP_go ?_ | refine mkP_pair ?_ | refine mkP_go ?_ | refine joinL_go ?_ | refine joinV_go ?_ | refine joinA_go ?_ | refine joinQ_go ?_ | refine letN_go ?_ | refine boxAtP_go ?_ | refine mkAtP_pair ?_ | refine mkAtP_go ?_ | refine guardP_tt ?_ | refine guardP_tf ?_ | refine guardP_ft ?_ | refine guardP_ff ?_ | refine boolP_tt ?_ | refine boolP_ff ?_ | refine invokeP_go ?_ | refine resP_go ?_ | refine resP_go' ?_ | ((conv => arg 1; simp (disch := omega) only [setTF_eq, argsTF, nth_eq, ld1_new, ld1_old, ld_2, ld_3, ld_4, ld_5, ld_7, wr_1, wr_2, wr_3, wr_4, wr_5, wr_7, wget_same, wget_ne, ofList_get, AV.cells, xOff_ptr, xNil_ptr, xExt_tuple, notV, ib_lss, ib_gtr, ib_leq, ib_geq, ib_eql, ib_neq, List.getElem?_cons_zero, List.getElem?_cons_succ, List.length_cons, List.length_nil, Option.bind_some, Nat.zero_add, Nat.add_zero, if_true, if_false, reduceIte, Nat.reduceEqDiff, Nat.reduceAdd, Nat.reduceMul, Nat.reduceLT, Nat.reduceBEq, decide_true, decide_false, Bool.not_true, Bool.not_false, t14, t16, hix, k0, k1, k2, al56]); (first | refine optR_go ?_ | refine optP_go ?_ | refine boolP_tt ?_ | refine boolP_ff ?_)) | dsimp only)
      refine joinH_go ?_
      repeat (with_reducible first | refine optR_go ?_ | refine optP_go ?_ | refine boxP_go ?_ | refine mkP_pair ?_ | refine mkP_go ?_ | refine joinL_go ?_ | refine joinV_go ?_ | refine joinA_go ?_ | refine joinQ_go ?_ | refine letN_go ?_ | refine boxAtP_go ?_ | refine mkAtP_pair ?_ | refine mkAtP_go ?_ | refine guardP_tt ?_ | refine guardP_tf ?_ | refine guardP_ft ?_ | refine guardP_ff ?_ | refine boolP_tt ?_ | refine boolP_ff ?_ | refine invokeP_go ?_ | refine resP_go ?_ | refine resP_go' ?_ | ((conv => arg 1; simp (disch := omega) only [setTF_eq, argsTF, nth_eq, ld1_new, ld1_old, ld_2, ld_3, ld_4, ld_5, ld_7, wr_1, wr_2, wr_3, wr_4, wr_5, wr_7, wget_same, wget_ne, ofList_get, AV.cells, xOff_ptr, xNil_ptr, xExt_tuple, notV, ib_lss, ib_gtr, ib_leq, ib_geq, ib_eql, ib_neq, List.getElem?_cons_zero, List.getElem?_cons_succ, List.length_cons, List.length_nil, Option.bind_some, Nat.zero_add, Nat.add_zero, if_true, if_false, reduceIte, Nat.reduceEqDiff, Nat.reduceAdd, Nat.reduceMul, Nat.reduceLT, Nat.reduceBEq, decide_true, decide_false, Bool.not_true, Bool.not_false, t14, t16, hix, k0, k1, k2, al56]); (first | refine optR_go ?_ | refine optP_go ?_ | refine boolP_tt ?_ | refine boolP_ff ?_)) | dsimp only)
      refine optR_of (st_all (hget_new (by omega)) (by omega) rfl (by decide) (by decide) rfl) ?_
      have hE6 : Exts (cf G n0) S' n (hset (cf G n0) (hset (cf G n0) S' n (some (.cells (Tr.ofList [.int .i64 0, .bool false, .int .i64 0] 0 .nil) 3 .own))) n (some (.cells (writeN (Tr.ofList [.int .i64 0, .bool false, .int .i64 0] 0 .nil) 0 (AV.agg [.int .i64 ck.on, .bool ck.no, .int .i64 ck.par]).cells) 3 .own))) (n + 1) := ⟨by omega, fun b hb => by simp (disch := omega) only [hget_old]⟩
      have f0 : ∀ o, aLd1 (cf G n0) (hset (cf G n0) (hset (cf G n0) S' n (some (.cells (Tr.ofList [.int .i64 0, .bool false, .int .i64 0] 0 .nil) 3 .own))) n (some (.cells (writeN (Tr.ofList [.int .i64 0, .bool false, .int .i64 0] 0 .nil) 0 (AV.agg [.int .i64 ck.on, .bool ck.no, .int .i64 ck.par]).cells) 3 .own))) (.ptr n o) = (writeN (Tr.ofList [.int .i64 0, .bool false, .int .i64 0] 0 .nil) 0 (AV.agg [.int .i64 ck.on, .bool ck.no, .int .i64 ck.par]).cells).get o := fun o => ld1_new (by omega)
      generalize hset (cf G n0) (hset (cf G n0) S' n (some (.cells (Tr.ofList [.int .i64 0, .bool false, .int .i64 0] 0 .nil) 3 .own))) n (some (.cells (writeN (Tr.ofList [.int .i64 0, .bool false, .int .i64 0] 0 .nil) 0 (AV.agg [.int .i64 ck.on, .bool ck.no, .int .i64 ck.par]).cells) 3 .own)) = S6 at hE6 f0
      have g0 : aLd1 (cf G n0) S6 (.ptr n 0) = some (.int .i64 ck.on) := f0 0
      have g1 : aLd1 (cf G n0) S6 (.ptr n 1) = some (.bool ck.no) := f0 1
      have g2 : aLd1 (cf G n0) S6 (.ptr n 2) = some (.int .i64 ck.par) := f0 2
      clear f0
      have hSl6 : Sl (cf G n0) S6 s' 1 (bs.map AV.bool) bl := hSl.keep fun y hy => hE6.keep y (hbl y hy).2
      have hE06 := hE.trans hE6
      have hw6 := (hw.ext hE06).len S6
      have hon' : ck.par = -1 ∨ ∃ o : Nat, ck.on = (o : Int) := (hp _ _ hci).imp id fun ⟨_, o, _, _, h⟩ => ⟨o, h⟩
      have fin : ∀ (T : TF) (n' : Nat), n + 1 ≤ n' → T 1 = some wv → T 5 = some s' → T 8 = some (.bool (enVal xs bs ck)) → T 14 = some s → T 15 = some (.int .i64 (L.length : Int)) → T 16 = some (.int .i64 (bs.length : Int)) → _ :=
        fun T n' hn' t1 t5 t8 t14 t15 t16 => en_tail (g := fun T S' n => ∃ m', m' < L.length - bs.length ∧ EnI G n0 S nx L xs wv s m' T S' n) (T := T) (n := n') hn (by omega) t5 t8 t16 (by omega) (by simp; omega) hSl6 (fun y hy => by have := hbl y hy; omega) (hE06.more hn') fun s2 S2 h1 h2 => by
          refine ⟨L.length - (bs.length + 1), by omega, bs ++ [enVal xs bs ck], s2, (n' + 1) :: bl, by simp, by simp; omega, hadd, ?_, ?_, ?_, ?_, ?_, ?_, ?_, h2⟩
          · simp only [setTF_eq, reduceIte, Nat.reduceEqDiff]; exact t1
          · simp only [setTF_eq, reduceIte, Nat.reduceEqDiff]
          · simp only [setTF_eq, reduceIte, Nat.reduceEqDiff]; exact t14
          · simp only [setTF_eq, reduceIte, Nat.reduceEqDiff]; exact t15
          · simp only [setTF_eq, reduceIte, Nat.reduceEqDiff, List.length_append, List.length_cons, List.length_nil]
          · rw [List.map_append]; exact h1
          · intro y hy
            rcases List.mem_cons.1 hy with rfl | hy
            · omega
            · have := hbl y hy; omega
      rcases hp _ _ hci with hpar | ⟨p, o, hpar, hpl, hon⟩
      · have d1 : decide (ck.par < 0) = true := by rw [hpar]; rfl
        have hv : enVal xs bs ck = true := by unfold enVal; rw [if_pos (by omega)]
        rw [hv] at fin
        repeat (with_reducible first | refine optR_go ?_ | refine optP_go ?_ | refine boxP_go ?_ | refine mkP_pair ?_ | refine mkP_go ?_ | refine joinL_go ?_ | refine joinV_go ?_ | refine joinA_go ?_ | refine joinQ_go ?_ | refine letN_go ?_ | refine boxAtP_go ?_ | refine mkAtP_pair ?_ | refine mkAtP_go ?_ | refine guardP_tt ?_ | refine guardP_tf ?_ | refine guardP_ft ?_ | refine guardP_ff ?_ | refine boolP_tt ?_ | refine boolP_ff ?_ | refine invokeP_go ?_ | refine resP_go ?_ | refine resP_go' ?_ | ((conv => arg 1; simp (disch := omega) only [setTF_eq, argsTF, nth_eq, ld1_new, ld1_old, ld_2, ld_3, ld_4, ld_5, ld_7, wr_1, wr_2, wr_3, wr_4, wr_5, wr_7, wget_same, wget_ne, ofList_get, AV.cells, xOff_ptr, xNil_ptr, xExt_tuple, notV, ib_lss, ib_gtr, ib_leq, ib_geq, ib_eql, ib_neq, List.getElem?_cons_zero, List.getElem?_cons_succ, List.length_cons, List.length_nil, Option.bind_some, Nat.zero_add, Nat.add_zero, if_true, if_false, reduceIte, Nat.reduceEqDiff, Nat.reduceAdd, Nat.reduceMul, Nat.reduceLT, Nat.reduceBEq, decide_true, decide_false, Bool.not_true, Bool.not_false, t5, t1, g0, g1, g2, d1]); (first | refine optR_go ?_ | refine optP_go ?_ | refine boolP_tt ?_ | refine boolP_ff ?_)) | dsimp only)
        refine joinH_of (fun T S' n' => S' = S6 ∧ n + 1 ≤ n' ∧ T 1 = some wv ∧ T 5 = some s' ∧ T 8 = some (.bool true) ∧ T 14 = some s ∧ T 15 = some (.int .i64 (L.length : Int)) ∧ T 16 = some (.int .i64 (bs.length : Int))) (fun j hj => ?_) ?_
        · repeat (with_reducible first | refine optR_go ?_ | refine optP_go ?_ | refine boxP_go ?_ | refine mkP_pair ?_ | refine mkP_go ?_ | refine joinL_go ?_ | refine joinV_go ?_ | refine joinA_go ?_ | refine joinQ_go ?_ | refine letN_go ?_ | refine boxAtP_go ?_ | refine mkAtP_pair ?_ | refine mkAtP_go ?_ | refine guardP_tt ?_ | refine guardP_tf ?_ | refine guardP_ft ?_ | refine guardP_ff ?_ | refine boolP_tt ?_ | refine boolP_ff ?_ | refine invokeP_go ?_ | refine resP_go ?_ | refine resP_go' ?_ | ((conv => arg 1; simp (disch := omega) only [setTF_eq, argsTF, nth_eq, ld1_new, ld1_old, ld_2, ld_3, ld_4, ld_5, ld_7, wr_1, wr_2, wr_3, wr_4, wr_5, wr_7, wget_same, wget_ne, ofList_get, AV.cells, xOff_ptr, xNil_ptr, xExt_tuple, notV, ib_lss, ib_gtr, ib_leq, ib_geq, ib_eql, ib_neq, List.getElem?_cons_zero, List.getElem?_cons_succ, List.length_cons, List.length_nil, Option.bind_some, Nat.zero_add, Nat.add_zero, if_true, if_false, reduceIte, Nat.reduceEqDiff, Nat.reduceAdd, Nat.reduceMul, Nat.reduceLT, Nat.reduceBEq, decide_true, decide_false, Bool.not_true, Bool.not_false, t5, t1, g0, g1, g2, d1]); (first | refine optR_go ?_ | refine optP_go ?_ | refine boolP_tt ?_ | refine boolP_ff ?_)) | dsimp only)
          refine hj _ _ _ ⟨rfl, by omega, ?_, ?_, ?_, ?_, ?_, ?_⟩ <;> (simp only [setTF_eq, reduceIte, Nat.reduceEqDiff]; first | done | exact t1 | exact t5 | exact t14 | exact t15 | exact t16 | rfl)
        · rintro T S' n' ⟨rfl, q0, q1, q2, q3, q4, q5, q6⟩
          exact fin T n' q0 q1 q2 q3 q4 q5 q6
      · have d1 : decide (ck.par < 0) = false := by rw [hpar]; simp
        have hpi : ∃ bb, ixSV 1 s' (.int .i64 ck.par) = some (.ptr bb (p * 1)) ∧ aLd1 (cf G n0) S6 (.ptr bb (p * 1)) = some (.bool bs[p]) := by
          obtain ⟨bb, _, h1, h2⟩ := hSl6.at (i := p) (by simp; omega) (by decide) .i64
          refine ⟨bb, by rw [hpar]; exact h1, ?_⟩
          have := h2 0
          rw [Nat.add_zero] at this
          rw [this, Nat.mul_one, List.getElem?_map, List.getElem?_eq_getElem (by omega)]; rfl
        obtain ⟨bb, p1, p2⟩ := hpi
        have hgp : bs[p]? = some bs[p] := List.getElem?_eq_getElem (by omega)
        have hv : enVal xs bs ck = (bs[p] && (wordOn xs ck.on != ck.no)) := by
          unfold enVal; rw [if_neg (by omega), hpar, Int.toNat_natCast, hgp]; rfl
        rw [hv] at fin
        generalize bs[p] = bp at p2 hv fin
        repeat (with_reducible first | refine optR_go ?_ | refine optP_go ?_ | refine boxP_go ?_ | refine mkP_pair ?_ | refine mkP_go ?_ | refine joinL_go ?_ | refine joinV_go ?_ | refine joinA_go ?_ | refine joinQ_go ?_ | refine letN_go ?_ | refine boxAtP_go ?_ | refine mkAtP_pair ?_ | refine mkAtP_go ?_ | refine guardP_tt ?_ | refine guardP_tf ?_ | refine guardP_ft ?_ | refine guardP_ff ?_ | refine boolP_tt ?_ | refine boolP_ff ?_ | refine invokeP_go ?_ | refine resP_go ?_ | refine resP_go' ?_ | ((conv => arg 1; simp (disch := omega) only [setTF_eq, argsTF, nth_eq, ld1_new, ld1_old, ld_2, ld_3, ld_4, ld_5, ld_7, wr_1, wr_2, wr_3, wr_4, wr_5, wr_7, wget_same, wget_ne, ofList_get, AV.cells, xOff_ptr, xNil_ptr, xExt_tuple, notV, ib_lss, ib_gtr, ib_leq, ib_geq, ib_eql, ib_neq, List.getElem?_cons_zero, List.getElem?_cons_succ, List.length_cons, List.length_nil, Option.bind_some, Nat.zero_add, Nat.add_zero, if_true, if_false, reduceIte, Nat.reduceEqDiff, Nat.reduceAdd, Nat.reduceMul, Nat.reduceLT, Nat.reduceBEq, decide_true, decide_false, Bool.not_true, Bool.not_false, t5, t1, g0, g1, g2, d1, p1, p2]); (first | refine optR_go ?_ | refine optP_go ?_ | refine boolP_tt ?_ | refine boolP_ff ?_)) | dsimp only)
        refine joinH_of (fun T S' n' => S' = S6 ∧ n + 1 ≤ n' ∧ T 1 = some wv ∧ T 5 = some s' ∧ T 8 = some (.bool (bp && (wordOn xs ck.on != ck.no))) ∧ T 14 = some s ∧ T 15 = some (.int .i64 (L.length : Int)) ∧ T 16 = some (.int .i64 (bs.length : Int))) (fun j hj => ?_) ?_
        · cases bp with
          | false =>
            repeat (with_reducible first | refine optR_go ?_ | refine optP_go ?_ | refine boxP_go ?_ | refine mkP_pair ?_ | refine mkP_go ?_ | refine joinL_go ?_ | refine joinV_go ?_ | refine joinA_go ?_ | refine joinQ_go ?_ | refine letN_go ?_ | refine boxAtP_go ?_ | refine mkAtP_pair ?_ | refine mkAtP_go ?_ | refine guardP_tt ?_ | refine guardP_tf ?_ | refine guardP_ft ?_ | refine guardP_ff ?_ | refine boolP_tt ?_ | refine boolP_ff ?_ | refine invokeP_go ?_ | refine resP_go ?_ | refine resP_go' ?_ | ((conv => arg 1; simp (disch := omega) only [setTF_eq, argsTF, nth_eq, ld1_new, ld1_old, ld_2, ld_3, ld_4, ld_5, ld_7, wr_1, wr_2, wr_3, wr_4, wr_5, wr_7, wget_same, wget_ne, ofList_get, AV.cells, xOff_ptr, xNil_ptr, xExt_tuple, notV, ib_lss, ib_gtr, ib_leq, ib_geq, ib_eql, ib_neq, List.getElem?_cons_zero, List.getElem?_cons_succ, List.length_cons, List.length_nil, Option.bind_some, Nat.zero_add, Nat.add_zero, if_true, if_false, reduceIte, Nat.reduceEqDiff, Nat.reduceAdd, Nat.reduceMul, Nat.reduceLT, Nat.reduceBEq, decide_true, decide_false, Bool.not_true, Bool.not_false, t5, t1, g0, g1, g2, d1]); (first | refine optR_go ?_ | refine optP_go ?_ | refine boolP_tt ?_ | refine boolP_ff ?_)) | dsimp only)
            refine hj _ _ _ ⟨rfl, by omega, ?_, ?_, ?_, ?_, ?_, ?_⟩ <;> (simp only [setTF_eq, reduceIte, Nat.reduceEqDiff, Bool.false_and]; first | done | exact t1 | exact t5 | exact t14 | exact t15 | exact t16 | rfl)
          | true =>
            by_cases hol : ck.on < (xs.length : Int)
            · have d2 : decide (ck.on < (xs.length : Int)) = true := by simpa using hol
              have hxi : xs[o]? = some xs[o] := List.getElem?_eq_getElem (by omega)
              have w1 := hw.ix o (by omega)
              have w2 := (hw.ext hE06).cell o _ hxi
              rw [← hon] at w1
              have hwn : wordOn xs ck.on = decide (xs[o] = 1) := by unfold wordOn; rw [hon, Int.toNat_natCast, hxi]; simp
              rw [hwn] at hj
              repeat (with_reducible first | refine optR_go ?_ | refine optP_go ?_ | refine boxP_go ?_ | refine mkP_pair ?_ | refine mkP_go ?_ | refine joinL_go ?_ | refine joinV_go ?_ | refine joinA_go ?_ | refine joinQ_go ?_ | refine letN_go ?_ | refine boxAtP_go ?_ | refine mkAtP_pair ?_ | refine mkAtP_go ?_ | refine guardP_tt ?_ | refine guardP_tf ?_ | refine guardP_ft ?_ | refine guardP_ff ?_ | refine boolP_tt ?_ | refine boolP_ff ?_ | refine invokeP_go ?_ | refine resP_go ?_ | refine resP_go' ?_ | ((conv => arg 1; simp (disch := omega) only [setTF_eq, argsTF, nth_eq, ld1_new, ld1_old, ld_2, ld_3, ld_4, ld_5, ld_7, wr_1, wr_2, wr_3, wr_4, wr_5, wr_7, wget_same, wget_ne, ofList_get, AV.cells, xOff_ptr, xNil_ptr, xExt_tuple, notV, ib_lss, ib_gtr, ib_leq, ib_geq, ib_eql, ib_neq, List.getElem?_cons_zero, List.getElem?_cons_succ, List.length_cons, List.length_nil, Option.bind_some, Nat.zero_add, Nat.add_zero, if_true, if_false, reduceIte, Nat.reduceEqDiff, Nat.reduceAdd, Nat.reduceMul, Nat.reduceLT, Nat.reduceBEq, decide_true, decide_false, Bool.not_true, Bool.not_false, t5, t1, g0, g1, g2, d1, hw6, d2, w1, w2, neB]); (first | refine optR_go ?_ | refine optP_go ?_ | refine boolP_tt ?_ | refine boolP_ff ?_)) | dsimp only)
              refine hj _ _ _ ⟨rfl, by omega, ?_, ?_, ?_, ?_, ?_, ?_⟩ <;> (simp only [setTF_eq, reduceIte, Nat.reduceEqDiff, Bool.true_and]; first | done | exact t1 | exact t5 | exact t14 | exact t15 | exact t16 | rfl)
            · have d2 : decide (ck.on < (xs.length : Int)) = false := by simpa using hol
              have hwn : wordOn xs ck.on = false := by unfold wordOn; rw [hon, Int.toNat_natCast, List.getElem?_eq_none (by omega)]; rfl
              rw [hwn] at hj
              repeat (with_reducible first | refine optR_go ?_ | refine optP_go ?_ | refine boxP_go ?_ | refine mkP_pair ?_ | refine mkP_go ?_ | refine joinL_go ?_ | refine joinV_go ?_ | refine joinA_go ?_ | refine joinQ_go ?_ | refine letN_go ?_ | refine boxAtP_go ?_ | refine mkAtP_pair ?_ | refine mkAtP_go ?_ | refine guardP_tt ?_ | refine guardP_tf ?_ | refine guardP_ft ?_ | refine guardP_ff ?_ | refine boolP_tt ?_ | refine boolP_ff ?_ | refine invokeP_go ?_ | refine resP_go ?_ | refine resP_go' ?_ | ((conv => arg 1; simp (disch := omega) only [setTF_eq, argsTF, nth_eq, ld1_new, ld1_old, ld_2, ld_3, ld_4, ld_5, ld_7, wr_1, wr_2, wr_3, wr_4, wr_5, wr_7, wget_same, wget_ne, ofList_get, AV.cells, xOff_ptr, xNil_ptr, xExt_tuple, notV, ib_lss, ib_gtr, ib_leq, ib_geq, ib_eql, ib_neq, List.getElem?_cons_zero, List.getElem?_cons_succ, List.length_cons, List.length_nil, Option.bind_some, Nat.zero_add, Nat.add_zero, if_true, if_false, reduceIte, Nat.reduceEqDiff, Nat.reduceAdd, Nat.reduceMul, Nat.reduceLT, Nat.reduceBEq, decide_true, decide_false, Bool.not_true, Bool.not_false, t5, t1, g0, g1, g2, d1, hw6, d2, neB]); (first | refine optR_go ?_ | refine optP_go ?_ | refine boolP_tt ?_ | refine boolP_ff ?_)) | dsimp only)
              refine hj _ _ _ ⟨rfl, by omega, ?_, ?_, ?_, ?_, ?_, ?_⟩ <;> (simp only [setTF_eq, reduceIte, Nat.reduceEqDiff, Bool.true_and]; first | done | exact t1 | exact t5 | exact t14 | exact t15 | exact t16 | rfl)
        · rintro T S' n' ⟨rfl, q0, q1, q2, q3, q4, q5, q6⟩
          exact fin T n' q0 q1 q2 q3 q4 q5 q6
    · have hi' : bs.length = L.length := by omega
      repeat (with_reducible first | refine optR_go ?_ | refine optP_go ?_ | refine boxP_go ?_ | refine mkP_pair ?_ | refine mkP_go ?_ | refine joinL_go ?_ | refine joinV_go ?_ | refine joinA_go ?_ | refine joinQ_go ?_ | refine letN_go ?_ | refine boxAtP_go ?_ | refine mkAtP_pair ?_ | refine mkAtP_go ?_ | refine guardP_tt ?_ | refine guardP_tf ?_ | refine guardP_ft ?_ | refine guardP_ff ?_ | refine boolP_tt ?_ | refine boolP_ff ?_ | refine invokeP_go ?_ | refine resP_go ?_ | refine resP_go' ?_ | ((conv => arg 1; simp (disch := omega) only [setTF_eq, argsTF, nth_eq, ld1_new, ld1_old, ld_2, ld_3, ld_4, ld_5, ld_7, wr_1, wr_2, wr_3, wr_4, wr_5, wr_7, wget_same, wget_ne, ofList_get, AV.cells, xOff_ptr, xNil_ptr, xExt_tuple, notV, ib_lss, ib_gtr, ib_leq, ib_geq, ib_eql, ib_neq, List.getElem?_cons_zero, List.getElem?_cons_succ, List.length_cons, List.length_nil, Option.bind_some, Nat.zero_add, Nat.add_zero, if_true, if_false, reduceIte, Nat.reduceEqDiff, Nat.reduceAdd, Nat.reduceMul, Nat.reduceLT, Nat.reduceBEq, decide_true, decide_false, Bool.not_true, Bool.not_false]); (first | refine optR_go ?_ | refine optP_go ?_ | refine boolP_tt ?_ | refine boolP_ff ?_)) | dsimp only)
      refine hj _ _ _ ⟨bs, s', bl, hi', hEn, ?_, hSl, hbl, hE⟩
      simp only [setTF_eq, reduceIte, Nat.reduceEqDiff]; exact t5
  · rintro T S' n ⟨bs, s', bl, hb, hEn, t5, hSl, hbl, hE⟩
    repeat (with_reducible first | refine optR_go ?_ | refine optP_go ?_ | refine boxP_go ?_ | refine mkP_pair ?_ | refine mkP_go ?_ | refine joinH_go ?_ | refine joinL_go ?_ | refine joinV_go ?_ | refine joinA_go ?_ | refine joinQ_go ?_ | refine letN_go ?_ | refine boxAtP_go ?_ | refine mkAtP_pair ?_ | refine mkAtP_go ?_ | refine guardP_tt ?_ | refine guardP_tf ?_ | refine guardP_ft ?_ | refine guardP_ff ?_ | refine boolP_tt ?_ | refine boolP_ff ?_ | refine invokeP_go ?_ | refine resP_go ?_ | refine resP_go' ?_ | ((conv => arg 1; simp (disch := omega) only [setTF_eq, argsTF, nth_eq, ld1_new, ld1_old, ld_2, ld_3, ld_4, ld_5, ld_7, wr_1, wr_2, wr_3, wr_4, wr_5, wr_7, wget_same, wget_ne, ofList_get, AV.cells, xOff_ptr, xNil_ptr, xExt_tuple, notV, ib_lss, ib_gtr, ib_leq, ib_geq, ib_eql, ib_neq, List.getElem?_cons_zero, List.getElem?_cons_succ, List.length_cons, List.length_nil, Option.bind_some, Nat.zero_add, Nat.add_zero, if_true, if_false, reduceIte, Nat.reduceEqDiff, Nat.reduceAdd, Nat.reduceMul, Nat.reduceLT, Nat.reduceBEq, decide_true, decide_false, Bool.not_true, Bool.not_false, t5]); (first | refine optR_go ?_ | refine optP_go ?_ | refine boolP_tt ?_ | refine boolP_ff ?_)) | dsimp only)
    obtain ⟨b', _, hra⟩ := (show Sl (cf G n0) S' s' 1 (bs.map fun x => [AV.bool x]).flatten bl by rw [brow_flat]; exact hSl).rows (t := 53) (by decide) (fun r hr => by obtain ⟨_, _, rfl⟩ := List.mem_map.1 hr; rfl) (und53 G n0) (by simp; omega) (lim := n) (fun y hy => (hbl y hy).2)
    exact ⟨bs, b', hb, hEn, hra, hE⟩
end
end
end Go.Proofs.Ytkmmngiodbbjcaa
