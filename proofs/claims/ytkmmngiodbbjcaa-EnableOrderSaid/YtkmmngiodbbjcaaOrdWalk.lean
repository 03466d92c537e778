/- What truth, bring, may, Place and all answer; condition: how their arguments read. -/
import Derived.Test.YtkmmngiodbbjcaaOrdRes
/-! ## The types of this program, as the walk meets them -/
namespace Go.Proofs.Ytkmmngiodbbjcaa
open Go.AE
noncomputable section
section
variable (G : Tr AObj) (n0 : Nat) (S : Tr AObj) (b o : Nat)
theorem und22 : (cf G n0).P.underlying 22 = some (.slice 65) := by kernel_rfl
theorem und23 : (cf G n0).P.underlying 23 = some (.slice 41) := by kernel_rfl
theorem und26 : (cf G n0).P.underlying 26 = some (.slice 40) := by kernel_rfl
theorem und28 : (cf G n0).P.underlying 28 = some (.slice 43) := by kernel_rfl
theorem und29 : (cf G n0).P.underlying 29 = some (.slice 45) := by kernel_rfl
theorem und50 : (cf G n0).P.underlying 50 = some (.slice 56) := by kernel_rfl
theorem und53 : (cf G n0).P.underlying 53 = some (.slice 4) := by kernel_rfl
theorem und66 : (cf G n0).P.underlying 66 = some (.slice 70) := by kernel_rfl
theorem und73 : (cf G n0).P.underlying 73 = some (.map 70 3) := by kernel_rfl
theorem und3 : (cf G n0).P.underlying 3 = some (.int .i64) := by kernel_rfl
theorem und34 : (cf G n0).P.underlying 34 = some (.int .u64) := by kernel_rfl
theorem el26 : elemOkB (cf G n0) 26 7 = true := by kernel_rfl
theorem el28 : elemOkB (cf G n0) 28 5 = true := by kernel_rfl
theorem el29 : elemOkB (cf G n0) 29 3 = true := by kernel_rfl
theorem el50 : elemOkB (cf G n0) 50 3 = true := by kernel_rfl
theorem el53 : elemOkB (cf G n0) 53 1 = true := by kernel_rfl
theorem el66 : elemOkB (cf G n0) 66 2 = true := by kernel_rfl
theorem al65 : mAlloc (cf G n0) 65 (one1 AE.undef) b = some (.ptr b 0, .cells (Tr.ofList [.int .i64 0, .int .i64 0, .bool false, .bool false] 0 .nil) 4 .own) := by kernel_rfl
theorem al40 : mAlloc (cf G n0) 40 (one1 AE.undef) b = some (.ptr b 0, .cells (Tr.ofList [.str [], .bool false, .bool false, .int .i64 0, .int .i64 0, .bool false, .int .i64 0] 0 .nil) 7 .own) := by kernel_rfl
theorem al43 : mAlloc (cf G n0) 43 (one1 AE.undef) b = some (.ptr b 0, .cells (Tr.ofList [.int .i64 0, .int .i64 0, .int .u64 0, .int .i64 0, .bool false] 0 .nil) 5 .own) := by kernel_rfl
theorem al45 : mAlloc (cf G n0) 45 (one1 AE.undef) b = some (.ptr b 0, .cells (Tr.ofList [.int .i64 0, .int .i64 0, .bool false] 0 .nil) 3 .own) := by kernel_rfl
theorem al37 : mAlloc (cf G n0) 37 (one1 AE.undef) b = some (.ptr b 0, .cells (Tr.ofList [.bool false, .bool false, .int .i64 0] 0 .nil) 3 .own) := by kernel_rfl
theorem al46 : mAlloc (cf G n0) 46 (one1 AE.undef) b = some (.ptr b 0, .cells (Tr.ofList [.nilptr] 0 .nil) 1 .own) := by kernel_rfl
theorem al73 : mAlloc (cf G n0) 73 (one1 AE.undef) b = some (.ptr b 0, .cells (Tr.ofList [.nilmap] 0 .nil) 1 .own) := by kernel_rfl
theorem al74 : mAlloc (cf G n0) 74 (one1 AE.undef) b = some (.ptr b 0, .cells (Tr.ofList [.nilFunc] 0 .nil) 1 .own) := by kernel_rfl
theorem al70 : mAlloc (cf G n0) 70 (one1 AE.undef) b = some (.ptr b 0, .cells (Tr.ofList [.int .i64 0, .bool false] 0 .nil) 2 .own) := by kernel_rfl
theorem al56 : mAlloc (cf G n0) 56 (one1 AE.undef) b = some (.ptr b 0, .cells (Tr.ofList [.int .i64 0, .bool false, .int .i64 0] 0 .nil) 3 .own) := by kernel_rfl
theorem bd31 : aBuild (cf G n0) 31 [] = some (.agg [.nilslice, .nilslice, .nilslice, .nilslice]) := by kernel_rfl
theorem bd52 : aBuild (cf G n0) 52 [] = some (.agg [.nilslice]) := by kernel_rfl
theorem bd43 (n : Int) (x : Bool) : aBuild (cf G n0) 43 [(3, .int .i64 n), (4, .bool x)] = some (.agg [.int .i64 0, .int .i64 0, .int .u64 0, .int .i64 n, .bool x]) := by kernel_rfl
theorem bd45 (n : Int) (x : Bool) : aBuild (cf G n0) 45 [(1, .int .i64 n), (2, .bool x)] = some (.agg [.int .i64 0, .int .i64 n, .bool x]) := by kernel_rfl
theorem bd37a (n : Int) : aBuild (cf G n0) 37 [(2, .int .i64 n)] = some (.agg [.bool false, .bool false, .int .i64 n]) := by kernel_rfl
theorem bd37b (x : Bool) (n : Int) : aBuild (cf G n0) 37 [(0, .bool x), (2, .int .i64 n)] = some (.agg [.bool x, .bool false, .int .i64 n]) := by kernel_rfl
theorem bd40 (t0 t1 t2 : AV) (n : Int) (x : Bool) : aBuild (cf G n0) 40 [(1, .agg [t0, t1, t2]), (2, .int .i64 n), (3, .bool x)] = some (.agg [.str [], t0, t1, t2, .int .i64 n, .bool x, .int .i64 0]) := by kernel_rfl
theorem bd70 (n : Int) (x : Bool) : aBuild (cf G n0) 70 [(0, .int .i64 n), (1, .bool x)] = some (.agg [.int .i64 n, .bool x]) := by kernel_rfl
theorem bd70a (n : Int) : aBuild (cf G n0) 70 [(0, .int .i64 n)] = some (.agg [.int .i64 n, .bool false]) := by kernel_rfl
theorem bd56 (n p : Int) (x : Bool) : aBuild (cf G n0) 56 [(0, .int .i64 n), (1, .bool x), (2, .int .i64 p)] = some (.agg [.int .i64 n, .bool x, .int .i64 p]) := by kernel_rfl
theorem sv28 (c0 c1 c2 c3 c4 : AV) : sliceV (cf G n0) 28 1 [(0, .agg [c0, c1, c2, c3, c4])] b = some (.slice b 0 1 1, .cells (Tr.ofList [c0, c1, c2, c3, c4] 0 .nil) 5 .own) := by kernel_rfl
theorem sv29 (c0 c1 c2 : AV) : sliceV (cf G n0) 29 1 [(0, .agg [c0, c1, c2])] b = some (.slice b 0 1 1, .cells (Tr.ofList [c0, c1, c2] 0 .nil) 3 .own) := by kernel_rfl
theorem sv26 (c0 c1 c2 c3 c4 c5 c6 : AV) : sliceV (cf G n0) 26 1 [(0, .agg [c0, c1, c2, c3, c4, c5, c6])] b = some (.slice b 0 1 1, .cells (Tr.ofList [c0, c1, c2, c3, c4, c5, c6] 0 .nil) 7 .own) := by kernel_rfl
theorem sv66 (c0 c1 : AV) : sliceV (cf G n0) 66 1 [(0, .agg [c0, c1])] b = some (.slice b 0 1 1, .cells (Tr.ofList [c0, c1] 0 .nil) 2 .own) := by kernel_rfl
theorem sv50 (c0 c1 c2 : AV) : sliceV (cf G n0) 50 1 [(0, .agg [c0, c1, c2])] b = some (.slice b 0 1 1, .cells (Tr.ofList [c0, c1, c2] 0 .nil) 3 .own) := by kernel_rfl
theorem sv53 (x : Bool) : sliceV (cf G n0) 53 1 [(0, .bool x)] b = some (.slice b 0 1 1, .cells (Tr.ofList [.bool x] 0 .nil) 1 .own) := by kernel_rfl
theorem ldT37 (a : AV) : aLoad (cf G n0) S 37 a = aLdN (cf G n0) S 3 a := by kernel_rfl
theorem eq24 : aBin (cf G n0) S .eql 24 true (.ptr b o) .nilptr = some (.bool false) := by kernel_rfl
theorem eq46 : aBin (cf G n0) S .eql 46 true (.ptr b o) .nilptr = some (.bool false) := by kernel_rfl
theorem eqB (x y : Bool) : aBin (cf G n0) S .eql 4 false (.bool x) (.bool y) = some (.bool (x == y)) := by cases x <;> cases y <;> kernel_rfl
theorem neB (x y : Bool) : aBin (cf G n0) S .neq 4 false (.bool x) (.bool y) = some (.bool (x != y)) := by cases x <;> cases y <;> kernel_rfl
theorem cvU (x : Int) : convV (cf G n0) S 3 34 (.int .i64 x) = some (.int .u64 (x % 18446744073709551616)) := by
  simp [convV, lConv, aConv, one1, und3, und34, intW, wrapF]
theorem cvI {x : Int} (h1 : 0 ≤ x) (h2 : x < 9223372036854775808) : convV (cf G n0) S 34 3 (.int .u64 x) = some (.int .i64 x) := by
  simp [convV, lConv, aConv, one1, und3, und34, intW, wrap64 (by omega : -9223372036854775808 ≤ x) h2]
theorem app_of (st : Nat) (s x : AV) (nx : Nat) (h : st = 26 ∨ st = 28 ∨ st = 29 ∨ st = 50 ∨ st = 53 ∨ st = 66) : hbuiltV (cf G n0) S nx .append [st, st] [s, x] = aAppend (cf G n0) S nx st s x := by
  rcases h with rfl | rfl | rfl | rfl | rfl | rfl <;> simp only [hbuiltV, und26, und28, und29, und50, und53, und66]
end
end
end Go.Proofs.Ytkmmngiodbbjcaa

/-! ## The calls of this program: what they tell -/
namespace Go.Proofs.Ytkmmngiodbbjcaa
open Go.AE
noncomputable section
theorem truth_call (G : Tr AObj) (n0 : Nat) (S : Tr AObj) (nx : Nat) (hn : (cf G n0).n0 ≤ nx) :
    callP (cf G n0) 7 [] S nx (fun u S' nx' => u = .agg [.bool true, .bool false, .int .i64 1] ∧ Exts (cf G n0) S nx S' nx') (fun _ _ _ => False) := by
  refine callP_fn (R7_chk G n0) rfl ?_
  rw [R7_eq]
  unfold R7
  repeat (with_reducible first | refine optR_go ?_ | refine optP_go ?_ | refine boxP_go ?_ | refine mkP_pair ?_ | refine mkP_go ?_ | refine joinH_go ?_ | refine joinL_go ?_ | refine joinV_go ?_ | refine joinA_go ?_ | refine joinQ_go ?_ | refine letN_go ?_ | refine boxAtP_go ?_ | refine mkAtP_pair ?_ | refine mkAtP_go ?_ | refine guardP_tt ?_ | refine guardP_tf ?_ | refine guardP_ft ?_ | refine guardP_ff ?_ | refine boolP_tt ?_ | refine boolP_ff ?_ | refine invokeP_go ?_ | refine resP_go ?_ | refine resP_go' ?_ | ((conv => arg 1; simp (disch := omega) only [setTF_eq, argsTF, nth_eq, ld1_new, ld1_old, ld_2, ld_3, ld_4, ld_5, ld_7, wr_1, wr_2, wr_3, wr_4, wr_5, wr_7, wget_same, wget_ne, ofList_get, AV.cells, xOff_ptr, xNil_ptr, xExt_tuple, notV, ib_lss, ib_gtr, ib_leq, ib_geq, ib_eql, ib_neq, List.getElem?_cons_zero, List.getElem?_cons_succ, List.length_cons, List.length_nil, Option.bind_some, Nat.zero_add, Nat.add_zero, if_true, if_false, reduceIte, Nat.reduceEqDiff, Nat.reduceAdd, Nat.reduceMul, Nat.reduceLT, Nat.reduceBEq, decide_true, decide_false, Bool.not_true, Bool.not_false, al37, bd37b]); (first | refine optR_go ?_ | refine optP_go ?_ | refine boolP_tt ?_ | refine boolP_ff ?_)) | dsimp only)
  refine optR_of (st_all (by (first | assumption | (simp (disch := omega) only [hget_new, hget_old] <;> rfl))) (by omega) rfl (by decide) (by decide) rfl) ?_
  repeat (with_reducible first | refine optR_go ?_ | refine optP_go ?_ | refine boxP_go ?_ | refine mkP_pair ?_ | refine mkP_go ?_ | refine joinH_go ?_ | refine joinL_go ?_ | refine joinV_go ?_ | refine joinA_go ?_ | refine joinQ_go ?_ | refine letN_go ?_ | refine boxAtP_go ?_ | refine mkAtP_pair ?_ | refine mkAtP_go ?_ | refine guardP_tt ?_ | refine guardP_tf ?_ | refine guardP_ft ?_ | refine guardP_ff ?_ | refine boolP_tt ?_ | refine boolP_ff ?_ | refine invokeP_go ?_ | refine resP_go ?_ | refine resP_go' ?_ | ((conv => arg 1; simp (disch := omega) only [setTF_eq, argsTF, nth_eq, ld1_new, ld1_old, ld_2, ld_3, ld_4, ld_5, ld_7, wr_1, wr_2, wr_3, wr_4, wr_5, wr_7, wget_same, wget_ne, ofList_get, AV.cells, xOff_ptr, xNil_ptr, xExt_tuple, notV, ib_lss, ib_gtr, ib_leq, ib_geq, ib_eql, ib_neq, List.getElem?_cons_zero, List.getElem?_cons_succ, List.length_cons, List.length_nil, Option.bind_some, Nat.zero_add, Nat.add_zero, if_true, if_false, reduceIte, Nat.reduceEqDiff, Nat.reduceAdd, Nat.reduceMul, Nat.reduceLT, Nat.reduceBEq, decide_true, decide_false, Bool.not_true, Bool.not_false, ldT37]); (first | refine optR_go ?_ | refine optP_go ?_ | refine boolP_tt ?_ | refine boolP_ff ?_)) | dsimp only)
  exact ⟨rfl, ⟨by omega, fun b hb => by simp (disch := omega) only [hget_old]⟩⟩
/-- bring: a clock is brought to one below -/
def brg (on : Int) (below : Nat) : Int := (on % 18446744073709551616) % ((below : Int) + 1)
theorem bring_call (G : Tr AObj) (n0 : Nat) (S : Tr AObj) (nx b1 o1 b2 o2 below : Nat) (on : Int) (no : Bool) (hb : below ≤ 1000) (S1 : Tr AObj) (h1 : aLd1 (cf G n0) S (.ptr b1 o1) = some (.int .i64 on))
    (Q : VK)
    (hs1 : stV (cf G n0) S 1 (.ptr b1 o1) (.int .i64 (brg on below)) = some S1) (hl1 : aLd1 (cf G n0) S1 (.ptr b1 o1) = some (.int .i64 (brg on below)))
    (hq1 : brg on below ≠ below → Q (.tuple []) S1 nx)
    (hq2 : brg on below = below → ∃ S2 S3, stV (cf G n0) S1 1 (.ptr b1 o1) (.int .i64 (-1)) = some S2 ∧ stV (cf G n0) S2 1 (.ptr b2 o2) (.bool false) = some S3 ∧ Q (.tuple []) S3 nx) :
    callP (cf G n0) 6 [.ptr b1 o1, .ptr b2 o2, .int .i64 below] S nx Q (fun _ _ _ => False) := by
  have e1 : aIBin .add (.int .i64 (below : Int)) (.int .i64 1) = some (.int .i64 ((below : Int) + 1)) := ib_add (by omega) (by omega)
  have e2 : ((below : Int) + 1) % 18446744073709551616 = (below : Int) + 1 := by omega
  have e3 : aIBin .rem (.int .u64 (on % 18446744073709551616)) (.int .u64 ((below : Int) + 1)) = some (.int .u64 (brg on below)) := by
    rw [ib_remU (by omega), Int.tmod_eq_emod_of_nonneg (by omega)]; rfl
  have hbr : 0 ≤ brg on below ∧ brg on below < (below : Int) + 1 := ⟨Int.emod_nonneg _ (by omega), Int.emod_lt_of_pos _ (by omega)⟩
  have e4 : convV (cf G n0) S 34 3 (.int .u64 (brg on below)) = some (.int .i64 (brg on below)) := cvI G n0 S hbr.1 (by omega)
  refine callP_fn (R6_chk G n0) rfl ?_
  rw [R6_eq]
  unfold R6
  clear hbr
  repeat (with_reducible first | refine optR_go ?_ | refine optP_go ?_ | refine boxP_go ?_ | refine mkP_pair ?_ | refine mkP_go ?_ | refine joinH_go ?_ | refine joinL_go ?_ | refine joinV_go ?_ | refine joinA_go ?_ | refine joinQ_go ?_ | refine letN_go ?_ | refine boxAtP_go ?_ | refine mkAtP_pair ?_ | refine mkAtP_go ?_ | refine guardP_tt ?_ | refine guardP_tf ?_ | refine guardP_ft ?_ | refine guardP_ff ?_ | refine boolP_tt ?_ | refine boolP_ff ?_ | refine invokeP_go ?_ | refine resP_go ?_ | refine resP_go' ?_ | ((conv => arg 1; simp (disch := omega) only [setTF_eq, argsTF, nth_eq, ld1_new, ld1_old, ld_2, ld_3, ld_4, ld_5, ld_7, wr_1, wr_2, wr_3, wr_4, wr_5, wr_7, wget_same, wget_ne, ofList_get, AV.cells, xOff_ptr, xNil_ptr, xExt_tuple, notV, ib_lss, ib_gtr, ib_leq, ib_geq, ib_eql, ib_neq, List.getElem?_cons_zero, List.getElem?_cons_succ, List.length_cons, List.length_nil, Option.bind_some, Nat.zero_add, Nat.add_zero, if_true, if_false, reduceIte, Nat.reduceEqDiff, Nat.reduceAdd, Nat.reduceMul, Nat.reduceLT, Nat.reduceBEq, decide_true, decide_false, Bool.not_true, Bool.not_false, h1, cvU, e1, e2, e3, e4, hs1, hl1]); (first | refine optR_go ?_ | refine optP_go ?_ | refine boolP_tt ?_ | refine boolP_ff ?_)) | dsimp only)
  refine boolP_dec (fun h => ?_) (fun h => ?_)
  · obtain ⟨S2, S3, k1, k2, k3⟩ := hq2 h
    repeat (with_reducible first | refine optR_go ?_ | refine optP_go ?_ | refine boxP_go ?_ | refine mkP_pair ?_ | refine mkP_go ?_ | refine joinH_go ?_ | refine joinL_go ?_ | refine joinV_go ?_ | refine joinA_go ?_ | refine joinQ_go ?_ | refine letN_go ?_ | refine boxAtP_go ?_ | refine mkAtP_pair ?_ | refine mkAtP_go ?_ | refine guardP_tt ?_ | refine guardP_tf ?_ | refine guardP_ft ?_ | refine guardP_ff ?_ | refine boolP_tt ?_ | refine boolP_ff ?_ | refine invokeP_go ?_ | refine resP_go ?_ | refine resP_go' ?_ | ((conv => arg 1; simp (disch := omega) only [setTF_eq, argsTF, nth_eq, ld1_new, ld1_old, ld_2, ld_3, ld_4, ld_5, ld_7, wr_1, wr_2, wr_3, wr_4, wr_5, wr_7, wget_same, wget_ne, ofList_get, AV.cells, xOff_ptr, xNil_ptr, xExt_tuple, notV, ib_lss, ib_gtr, ib_leq, ib_geq, ib_eql, ib_neq, List.getElem?_cons_zero, List.getElem?_cons_succ, List.length_cons, List.length_nil, Option.bind_some, Nat.zero_add, Nat.add_zero, if_true, if_false, reduceIte, Nat.reduceEqDiff, Nat.reduceAdd, Nat.reduceMul, Nat.reduceLT, Nat.reduceBEq, decide_true, decide_false, Bool.not_true, Bool.not_false, k1, k2]); (first | refine optR_go ?_ | refine optP_go ?_ | refine boolP_tt ?_ | refine boolP_ff ?_)) | dsimp only)
    exact k3
  · exact hq1 h
/-- a clock without its parent -/
structure W where
  on : Int
  no : Bool
  deriving DecidableEq
def key (w : W) : AV := .agg [.int .i64 w.on, .bool w.no]
/-- the variables of a normal program, as they are read -/
structure Rd (C : Cfg) (S : Tr AObj) (lim bn bv : Nat) (sv : AV) (vs : List W) : Prop where
  hbn : bn < lim
  hbv : bv < lim
  many : vs.length ≤ 1000
  ld : aLd1 C S (.ptr bn 0) = some sv
  len : ∀ S', builtV C S' .len [26] [sv] = some (.int .i64 (vs.length : Int))
  ix : ∀ (i : Nat) w, vs[i]? = some w → ixSV 7 sv (.int .i64 (i : Int)) = some (.ptr bv (i * 7))
  ty : ∀ (i : Nat) w, vs[i]? = some w → aLd1 C S (.ptr bv (i * 7 + 1)) = some (.bool true)
  on : ∀ (i : Nat) w, vs[i]? = some w → aLd1 C S (.ptr bv (i * 7 + 4)) = some (.int .i64 w.on)
  no : ∀ (i : Nat) w, vs[i]? = some w → aLd1 C S (.ptr bv (i * 7 + 5)) = some (.bool w.no)
theorem Rd.ext {C : Cfg} {S S' : Tr AObj} {lim bn bv nx' : Nat} {sv : AV} {vs : List W} (h : Rd C S lim bn bv sv vs) (k : Exts C S lim S' nx') : Rd C S' lim bn bv sv vs :=
  ⟨h.hbn, h.hbv, h.many, by rw [k.ld1 _ _ h.hbn]; exact h.ld, h.len, h.ix, fun i w hw => by rw [k.ld1 _ _ h.hbv]; exact h.ty i w hw, fun i w hw => by rw [k.ld1 _ _ h.hbv]; exact h.on i w hw, fun i w hw => by rw [k.ld1 _ _ h.hbv]; exact h.no i w hw⟩
/-- a clock that may be -/
def MayB (vs : List W) (w : W) : Prop := (w.on = -1 ∧ w.no = false) ∨ ∃ i : Nat, w.on = (i : Int) ∧ i < vs.length
section
variable {G : Tr AObj} {n0 : Nat} {S : Tr AObj} {nx lim bn bv : Nat} {sv : AV} {vs : List W}
theorem may_call (hn : (cf G n0).n0 ≤ nx) (hr : Rd (cf G n0) S lim bn bv sv vs) (hlim : lim ≤ nx) (w : W) (hw : MayB vs w) :
    callP (cf G n0) 18 [.ptr bn 0, key w] S nx (fun u S' nx' => u = .bool true ∧ Exts (cf G n0) S nx S' nx') (fun _ _ _ => False) := by
  refine callP_fn (R18_chk G n0) rfl ?_
  obtain ⟨on, no⟩ := w
  rw [R18_eq]
  unfold R18 key
  have hbn := hr.hbn
  have hbv := hr.hbv
  rcases hw with ⟨h1, h2⟩ | ⟨i, h1, h2⟩
  · simp only at h1 h2
    subst h1 h2
    repeat (with_reducible first | refine optR_go ?_ | refine optP_go ?_ | refine boxP_go ?_ | refine mkP_pair ?_ | refine mkP_go ?_ | refine joinH_go ?_ | refine joinL_go ?_ | refine joinV_go ?_ | refine joinA_go ?_ | refine joinQ_go ?_ | refine letN_go ?_ | refine boxAtP_go ?_ | refine mkAtP_pair ?_ | refine mkAtP_go ?_ | refine guardP_tt ?_ | refine guardP_tf ?_ | refine guardP_ft ?_ | refine guardP_ff ?_ | refine boolP_tt ?_ | refine boolP_ff ?_ | refine invokeP_go ?_ | refine resP_go ?_ | refine resP_go' ?_ | ((conv => arg 1; simp (disch := omega) only [setTF_eq, argsTF, nth_eq, ld1_new, ld1_old, ld_2, ld_3, ld_4, ld_5, ld_7, wr_1, wr_2, wr_3, wr_4, wr_5, wr_7, wget_same, wget_ne, ofList_get, AV.cells, xOff_ptr, xNil_ptr, xExt_tuple, notV, ib_lss, ib_gtr, ib_leq, ib_geq, ib_eql, ib_neq, List.getElem?_cons_zero, List.getElem?_cons_succ, List.length_cons, List.length_nil, Option.bind_some, Nat.zero_add, Nat.add_zero, if_true, if_false, reduceIte, Nat.reduceEqDiff, Nat.reduceAdd, Nat.reduceMul, Nat.reduceLT, Nat.reduceBEq, decide_true, decide_false, Bool.not_true, Bool.not_false]); (first | refine optR_go ?_ | refine optP_go ?_ | refine boolP_tt ?_ | refine boolP_ff ?_)) | dsimp only)
    exact ⟨rfl, ⟨by omega, fun b hb => by simp (disch := omega) only [hget_old]⟩⟩
  · simp only at h1
    subst h1
    have hi : vs[i]? = some vs[i] := List.getElem?_eq_getElem h2
    have e1 : decide ((i : Int) = -1) = false := by simp
    have e2 : decide (0 ≤ (i : Int)) = true := by simp
    have e3 : decide ((i : Int) < (vs.length : Int)) = true := by simpa using h2
    have hix := hr.ix i _ hi
    have hty := hr.ty i _ hi
    have hld := hr.ld
    have hlen := hr.len
    repeat (with_reducible first | refine optR_go ?_ | refine optP_go ?_ | refine boxP_go ?_ | refine mkP_pair ?_ | refine mkP_go ?_ | refine joinH_go ?_ | refine joinL_go ?_ | refine joinV_go ?_ | refine joinA_go ?_ | refine joinQ_go ?_ | refine letN_go ?_ | refine boxAtP_go ?_ | refine mkAtP_pair ?_ | refine mkAtP_go ?_ | refine guardP_tt ?_ | refine guardP_tf ?_ | refine guardP_ft ?_ | refine guardP_ff ?_ | refine boolP_tt ?_ | refine boolP_ff ?_ | refine invokeP_go ?_ | refine resP_go ?_ | refine resP_go' ?_ | ((conv => arg 1; simp (disch := omega) only [setTF_eq, argsTF, nth_eq, ld1_new, ld1_old, ld_2, ld_3, ld_4, ld_5, ld_7, wr_1, wr_2, wr_3, wr_4, wr_5, wr_7, wget_same, wget_ne, ofList_get, AV.cells, xOff_ptr, xNil_ptr, xExt_tuple, notV, ib_lss, ib_gtr, ib_leq, ib_geq, ib_eql, ib_neq, List.getElem?_cons_zero, List.getElem?_cons_succ, List.length_cons, List.length_nil, Option.bind_some, Nat.zero_add, Nat.add_zero, if_true, if_false, reduceIte, Nat.reduceEqDiff, Nat.reduceAdd, Nat.reduceMul, Nat.reduceLT, Nat.reduceBEq, decide_true, decide_false, Bool.not_true, Bool.not_false, e1, e2, e3, hix, hty, hld, hlen]); (first | refine optR_go ?_ | refine optP_go ?_ | refine boolP_tt ?_ | refine boolP_ff ?_)) | dsimp only)
    exact ⟨rfl, ⟨by omega, fun b hb => by simp (disch := omega) only [hget_old]⟩⟩
theorem not_may_call (hn : (cf G n0).n0 ≤ nx) (hr : Rd (cf G n0) S lim bn bv sv vs) (hlim : lim ≤ nx) (w : W) (hw : MayB vs w) {bx : Nat} (hbx : bx < nx) (hx : aLd1 (cf G n0) S (.ptr bx 0) = some (.ptr bn 0)) :
    callP (cf G n0) 17 [key w, .ptr bx 0] S nx (fun u S' nx' => u = .bool false ∧ Exts (cf G n0) S nx S' nx') (fun _ _ _ => False) := by
  refine callP_fn (R17_chk G n0) rfl ?_
  rw [R17_eq]
  unfold R17
  have hk : ∀ S, Exts (cf G n0) S nx (hset (cf G n0) S nx (some (.cells (Tr.ofList [.int .i64 w.on, .bool w.no] 0 .nil) 2 .own))) (nx + 1) := fun S => Exts.fresh hn _
  unfold key
  repeat (with_reducible first | refine optR_go ?_ | refine optP_go ?_ | refine boxP_go ?_ | refine mkP_pair ?_ | refine mkP_go ?_ | refine joinH_go ?_ | refine joinL_go ?_ | refine joinV_go ?_ | refine joinA_go ?_ | refine joinQ_go ?_ | refine letN_go ?_ | refine boxAtP_go ?_ | refine mkAtP_pair ?_ | refine mkAtP_go ?_ | refine guardP_tt ?_ | refine guardP_tf ?_ | refine guardP_ft ?_ | refine guardP_ff ?_ | refine boolP_tt ?_ | refine boolP_ff ?_ | refine invokeP_go ?_ | refine resP_go ?_ | refine resP_go' ?_ | ((conv => arg 1; simp (disch := omega) only [setTF_eq, argsTF, nth_eq, ld1_new, ld1_old, ld_2, ld_3, ld_4, ld_5, ld_7, wr_1, wr_2, wr_3, wr_4, wr_5, wr_7, wget_same, wget_ne, ofList_get, AV.cells, xOff_ptr, xNil_ptr, xExt_tuple, notV, ib_lss, ib_gtr, ib_leq, ib_geq, ib_eql, ib_neq, List.getElem?_cons_zero, List.getElem?_cons_succ, List.length_cons, List.length_nil, Option.bind_some, Nat.zero_add, Nat.add_zero, if_true, if_false, reduceIte, Nat.reduceEqDiff, Nat.reduceAdd, Nat.reduceMul, Nat.reduceLT, Nat.reduceBEq, decide_true, decide_false, Bool.not_true, Bool.not_false, hx]); (first | refine optR_go ?_ | refine optP_go ?_ | refine boolP_tt ?_ | refine boolP_ff ?_)) | dsimp only)
  refine (may_call (by omega) (hr.ext ((hk S).more' hlim)) (by omega) w hw).mono ?_ ?_
  · rintro u S' nx' ⟨rfl, hE⟩
    repeat (with_reducible first | refine optR_go ?_ | refine optP_go ?_ | refine boxP_go ?_ | refine mkP_pair ?_ | refine mkP_go ?_ | refine joinH_go ?_ | refine joinL_go ?_ | refine joinV_go ?_ | refine joinA_go ?_ | refine joinQ_go ?_ | refine letN_go ?_ | refine boxAtP_go ?_ | refine mkAtP_pair ?_ | refine mkAtP_go ?_ | refine guardP_tt ?_ | refine guardP_tf ?_ | refine guardP_ft ?_ | refine guardP_ff ?_ | refine boolP_tt ?_ | refine boolP_ff ?_ | refine invokeP_go ?_ | refine resP_go ?_ | refine resP_go' ?_ | ((conv => arg 1; simp (disch := omega) only [setTF_eq, argsTF, nth_eq, ld1_new, ld1_old, ld_2, ld_3, ld_4, ld_5, ld_7, wr_1, wr_2, wr_3, wr_4, wr_5, wr_7, wget_same, wget_ne, ofList_get, AV.cells, xOff_ptr, xNil_ptr, xExt_tuple, notV, ib_lss, ib_gtr, ib_leq, ib_geq, ib_eql, ib_neq, List.getElem?_cons_zero, List.getElem?_cons_succ, List.length_cons, List.length_nil, Option.bind_some, Nat.zero_add, Nat.add_zero, if_true, if_false, reduceIte, Nat.reduceEqDiff, Nat.reduceAdd, Nat.reduceMul, Nat.reduceLT, Nat.reduceBEq, decide_true, decide_false, Bool.not_true, Bool.not_false]); (first | refine optR_go ?_ | refine optP_go ?_ | refine boolP_tt ?_ | refine boolP_ff ?_)) | dsimp only)
    exact ⟨rfl, (hk S).trans hE⟩
  · exact fun _ _ _ h => h.elim
theorem idx26_call (hn : (cf G n0).n0 ≤ nx) {b : Nat} {sl : AV} {rows : List (List AV)} (hr : RdA (cf G n0) S nx b sl 66 2 rows) (hrow : ∀ r ∈ rows, r.length = 2) {g : Nat} {cap : List AV} {pr : Nat → Bool}
    (hp : ∀ (i : Nat) r S' nx', rows[i]? = some r → Exts (cf G n0) S nx S' nx' → callP (cf G n0) g (.agg r :: cap) S' nx' (fun u S2 n2 => u = .bool (pr i) ∧ Exts (cf G n0) S' nx' S2 n2) (fun _ _ _ => False)) :
    callP (cf G n0) 26 [sl, .func (.func g) [] cap] S nx (fun u S' nx' => ∃ r, u = .int .i64 r ∧ FirstIs pr rows.length r ∧ Exts (cf G n0) S nx S' nx') (fun _ _ _ => False) := by
  refine callP_fn (R26_chk G n0) rfl ?_
  rw [R26_eq]
  unfold R26
  have hlen := hr.len
  repeat (with_reducible first | refine optR_go ?_ | refine optP_go ?_ | refine boxP_go ?_ | refine mkP_pair ?_ | refine mkP_go ?_ | refine joinH_go ?_ | refine joinL_go ?_ | refine joinV_go ?_ | refine joinA_go ?_ | refine joinQ_go ?_ | refine letN_go ?_ | refine boxAtP_go ?_ | refine mkAtP_pair ?_ | refine mkAtP_go ?_ | refine guardP_tt ?_ | refine guardP_tf ?_ | refine guardP_ft ?_ | refine guardP_ff ?_ | refine boolP_tt ?_ | refine boolP_ff ?_ | refine invokeP_go ?_ | refine resP_go ?_ | refine resP_go' ?_ | ((conv => arg 1; simp (disch := omega) only [setTF_eq, argsTF, nth_eq, ld1_new, ld1_old, ld_2, ld_3, ld_4, ld_5, ld_7, wr_1, wr_2, wr_3, wr_4, wr_5, wr_7, wget_same, wget_ne, ofList_get, AV.cells, xOff_ptr, xNil_ptr, xExt_tuple, notV, ib_lss, ib_gtr, ib_leq, ib_geq, ib_eql, ib_neq, List.getElem?_cons_zero, List.getElem?_cons_succ, List.length_cons, List.length_nil, Option.bind_some, Nat.zero_add, Nat.add_zero, if_true, if_false, reduceIte, Nat.reduceEqDiff, Nat.reduceAdd, Nat.reduceMul, Nat.reduceLT, Nat.reduceBEq, decide_true, decide_false, Bool.not_true, Bool.not_false, hlen]); (first | refine optR_go ?_ | refine optP_go ?_ | refine boolP_tt ?_ | refine boolP_ff ?_)) | dsimp only)
  refine loopP_go (fun m T S' nx' => ∃ i : Nat, m = rows.length - i ∧ i ≤ rows.length ∧ T 0 = some sl ∧ T 1 = some (.func (.func g) [] cap) ∧ T 7 = some (.int .i64 (rows.length : Int)) ∧ T 8 = some (.int .i64 (i : Int)) ∧ (∀ j, j < i → pr j = false) ∧ Exts (cf G n0) S nx S' nx')
    rows.length ⟨0, by omega, by omega, ?_, ?_, ?_, ?_, by intro j hj; omega, Exts.refl _ _⟩ ?_
  · simp only [setTF_eq, argsTF, nth_eq, reduceIte, Nat.reduceEqDiff, List.getElem?_cons_zero]
  · simp only [setTF_eq, argsTF, nth_eq, reduceIte, Nat.reduceEqDiff, List.getElem?_cons_zero, List.getElem?_cons_succ]
  · simp only [setTF_eq, argsTF, nth_eq, reduceIte, Nat.reduceEqDiff]
  · simp only [setTF_eq, argsTF, nth_eq, reduceIte, Nat.reduceEqDiff]; rfl
  · rintro m T S' nx' ⟨i, rfl, hi, h0, h1, h7, h8, hpre, hE⟩
    have hmany := hr.many
    repeat (with_reducible first | refine optR_go ?_ | refine optP_go ?_ | refine boxP_go ?_ | refine mkP_pair ?_ | refine mkP_go ?_ | refine joinH_go ?_ | refine joinL_go ?_ | refine joinV_go ?_ | refine joinA_go ?_ | refine joinQ_go ?_ | refine letN_go ?_ | refine boxAtP_go ?_ | refine mkAtP_pair ?_ | refine mkAtP_go ?_ | refine guardP_tt ?_ | refine guardP_tf ?_ | refine guardP_ft ?_ | refine guardP_ff ?_ | refine boolP_tt ?_ | refine boolP_ff ?_ | refine invokeP_go ?_ | refine resP_go ?_ | refine resP_go' ?_ | ((conv => arg 1; simp (disch := omega) only [setTF_eq, argsTF, nth_eq, ld1_new, ld1_old, ld_2, ld_3, ld_4, ld_5, ld_7, wr_1, wr_2, wr_3, wr_4, wr_5, wr_7, wget_same, wget_ne, ofList_get, AV.cells, xOff_ptr, xNil_ptr, xExt_tuple, notV, ib_lss, ib_gtr, ib_leq, ib_geq, ib_eql, ib_neq, List.getElem?_cons_zero, List.getElem?_cons_succ, List.length_cons, List.length_nil, Option.bind_some, Nat.zero_add, Nat.add_zero, if_true, if_false, reduceIte, Nat.reduceEqDiff, Nat.reduceAdd, Nat.reduceMul, Nat.reduceLT, Nat.reduceBEq, decide_true, decide_false, Bool.not_true, Bool.not_false, h7, h8]); (first | refine optR_go ?_ | refine optP_go ?_ | refine boolP_tt ?_ | refine boolP_ff ?_)) | dsimp only)
    refine boolP_dec (fun hlt => ?_) (fun hge => ?_)
    · have hlt : i < rows.length := by omega
      have hri : rows[i]? = some rows[i] := List.getElem?_eq_getElem hlt
      have hl := hrow _ (List.getElem_mem hlt)
      have hix := hr.ix i hlt
      have hr' := hr.ext hE
      obtain ⟨c0, c1, hrw⟩ : ∃ c0 c1, rows[i] = [c0, c1] := by
        match rows[i], hl with
        | [a, b], _ => exact ⟨a, b, rfl⟩
      have k0 := hr'.cell i _ 0 c0 hri (by rw [hrw]; rfl)
      have k1 := hr'.cell i _ 1 c1 hri (by rw [hrw]; rfl)
      rw [Nat.add_zero] at k0
      repeat (with_reducible first | refine optR_go ?_ | refine optP_go ?_ | refine boxP_go ?_ | refine mkP_pair ?_ | refine mkP_go ?_ | refine joinH_go ?_ | refine joinL_go ?_ | refine joinV_go ?_ | refine joinA_go ?_ | refine joinQ_go ?_ | refine letN_go ?_ | refine boxAtP_go ?_ | refine mkAtP_pair ?_ | refine mkAtP_go ?_ | refine guardP_tt ?_ | refine guardP_tf ?_ | refine guardP_ft ?_ | refine guardP_ff ?_ | refine boolP_tt ?_ | refine boolP_ff ?_ | refine invokeP_go ?_ | refine resP_go ?_ | refine resP_go' ?_ | ((conv => arg 1; simp (disch := omega) only [setTF_eq, argsTF, nth_eq, ld1_new, ld1_old, ld_2, ld_3, ld_4, ld_5, ld_7, wr_1, wr_2, wr_3, wr_4, wr_5, wr_7, wget_same, wget_ne, ofList_get, AV.cells, xOff_ptr, xNil_ptr, xExt_tuple, notV, ib_lss, ib_gtr, ib_leq, ib_geq, ib_eql, ib_neq, List.getElem?_cons_zero, List.getElem?_cons_succ, List.length_cons, List.length_nil, Option.bind_some, Nat.zero_add, Nat.add_zero, if_true, if_false, reduceIte, Nat.reduceEqDiff, Nat.reduceAdd, Nat.reduceMul, Nat.reduceLT, Nat.reduceBEq, decide_true, decide_false, Bool.not_true, Bool.not_false, h0, h1, h8, hix, k0, k1]); (first | refine optR_go ?_ | refine optP_go ?_ | refine boolP_tt ?_ | refine boolP_ff ?_)) | dsimp only)
      simp only [List.nil_append, List.singleton_append]
      have hc := hp i _ S' nx' hri hE
      rw [hrw] at hc
      refine hc.mono ?_ ?_
      · rintro u S2 n2 ⟨rfl, hE2⟩
        have e1 : aIBin .add (.int .i64 (i : Int)) (.int .i64 1) = some (.int .i64 ((i + 1 : Nat) : Int)) := by rw [ib_add (by omega) (by omega)]; rfl
        repeat (with_reducible first | refine optR_go ?_ | refine optP_go ?_ | refine boxP_go ?_ | refine mkP_pair ?_ | refine mkP_go ?_ | refine joinH_go ?_ | refine joinL_go ?_ | refine joinV_go ?_ | refine joinA_go ?_ | refine joinQ_go ?_ | refine letN_go ?_ | refine boxAtP_go ?_ | refine mkAtP_pair ?_ | refine mkAtP_go ?_ | refine guardP_tt ?_ | refine guardP_tf ?_ | refine guardP_ft ?_ | refine guardP_ff ?_ | refine boolP_tt ?_ | refine boolP_ff ?_ | refine invokeP_go ?_ | refine resP_go ?_ | refine resP_go' ?_ | ((conv => arg 1; simp (disch := omega) only [setTF_eq, argsTF, nth_eq, ld1_new, ld1_old, ld_2, ld_3, ld_4, ld_5, ld_7, wr_1, wr_2, wr_3, wr_4, wr_5, wr_7, wget_same, wget_ne, ofList_get, AV.cells, xOff_ptr, xNil_ptr, xExt_tuple, notV, ib_lss, ib_gtr, ib_leq, ib_geq, ib_eql, ib_neq, List.getElem?_cons_zero, List.getElem?_cons_succ, List.length_cons, List.length_nil, Option.bind_some, Nat.zero_add, Nat.add_zero, if_true, if_false, reduceIte, Nat.reduceEqDiff, Nat.reduceAdd, Nat.reduceMul, Nat.reduceLT, Nat.reduceBEq, decide_true, decide_false, Bool.not_true, Bool.not_false]); (first | refine optR_go ?_ | refine optP_go ?_ | refine boolP_tt ?_ | refine boolP_ff ?_)) | dsimp only)
        cases hq : pr i with
        | true =>
          refine boolP_tt ?_
          exact ⟨_, rfl, .inr ⟨i, hlt, rfl, hq, hpre⟩, hE.trans hE2⟩
        | false =>
          refine boolP_ff ?_
          repeat (with_reducible first | refine optR_go ?_ | refine optP_go ?_ | refine boxP_go ?_ | refine mkP_pair ?_ | refine mkP_go ?_ | refine joinH_go ?_ | refine joinL_go ?_ | refine joinV_go ?_ | refine joinA_go ?_ | refine joinQ_go ?_ | refine letN_go ?_ | refine boxAtP_go ?_ | refine mkAtP_pair ?_ | refine mkAtP_go ?_ | refine guardP_tt ?_ | refine guardP_tf ?_ | refine guardP_ft ?_ | refine guardP_ff ?_ | refine boolP_tt ?_ | refine boolP_ff ?_ | refine invokeP_go ?_ | refine resP_go ?_ | refine resP_go' ?_ | ((conv => arg 1; simp (disch := omega) only [setTF_eq, argsTF, nth_eq, ld1_new, ld1_old, ld_2, ld_3, ld_4, ld_5, ld_7, wr_1, wr_2, wr_3, wr_4, wr_5, wr_7, wget_same, wget_ne, ofList_get, AV.cells, xOff_ptr, xNil_ptr, xExt_tuple, notV, ib_lss, ib_gtr, ib_leq, ib_geq, ib_eql, ib_neq, List.getElem?_cons_zero, List.getElem?_cons_succ, List.length_cons, List.length_nil, Option.bind_some, Nat.zero_add, Nat.add_zero, if_true, if_false, reduceIte, Nat.reduceEqDiff, Nat.reduceAdd, Nat.reduceMul, Nat.reduceLT, Nat.reduceBEq, decide_true, decide_false, Bool.not_true, Bool.not_false, h8, e1]); (first | refine optR_go ?_ | refine optP_go ?_ | refine boolP_tt ?_ | refine boolP_ff ?_)) | dsimp only)
          refine ⟨rows.length - (i + 1), by omega, i + 1, rfl, by omega, ?_, ?_, ?_, ?_, ?_, hE.trans hE2⟩
          · simp only [setTF_eq, reduceIte, Nat.reduceEqDiff]; exact h0
          · simp only [setTF_eq, reduceIte, Nat.reduceEqDiff]; exact h1
          · simp only [setTF_eq, reduceIte, Nat.reduceEqDiff]; exact h7
          · simp only [setTF_eq, reduceIte, Nat.reduceEqDiff]
          · intro j hj
            rcases Nat.lt_succ_iff_lt_or_eq.1 hj with h | rfl
            · exact hpre j h
            · exact hq
      · exact fun _ _ _ h => h.elim
    · exact ⟨_, rfl, .inl ⟨rfl, fun j hj => hpre j (by omega)⟩, hE⟩
theorem idx20_call (hn : (cf G n0).n0 ≤ nx) {b : Nat} {sl : AV} {rows : List (List AV)} (hr : RdA (cf G n0) S nx b sl 50 3 rows) (hrow : ∀ r ∈ rows, r.length = 3) {g : Nat} {cap : List AV} {pr : Nat → Bool}
    (hp : ∀ (i : Nat) r S' nx', rows[i]? = some r → Exts (cf G n0) S nx S' nx' → callP (cf G n0) g (.agg r :: cap) S' nx' (fun u S2 n2 => u = .bool (pr i) ∧ Exts (cf G n0) S' nx' S2 n2) (fun _ _ _ => False)) :
    callP (cf G n0) 20 [sl, .func (.func g) [] cap] S nx (fun u S' nx' => ∃ r, u = .int .i64 r ∧ FirstIs pr rows.length r ∧ Exts (cf G n0) S nx S' nx') (fun _ _ _ => False) := by
  refine callP_fn (R20_chk G n0) rfl ?_
  rw [R20_eq]
  unfold R20
  have hlen := hr.len
  repeat (with_reducible first | refine optR_go ?_ | refine optP_go ?_ | refine boxP_go ?_ | refine mkP_pair ?_ | refine mkP_go ?_ | refine joinH_go ?_ | refine joinL_go ?_ | refine joinV_go ?_ | refine joinA_go ?_ | refine joinQ_go ?_ | refine letN_go ?_ | refine boxAtP_go ?_ | refine mkAtP_pair ?_ | refine mkAtP_go ?_ | refine guardP_tt ?_ | refine guardP_tf ?_ | refine guardP_ft ?_ | refine guardP_ff ?_ | refine boolP_tt ?_ | refine boolP_ff ?_ | refine invokeP_go ?_ | refine resP_go ?_ | refine resP_go' ?_ | ((conv => arg 1; simp (disch := omega) only [setTF_eq, argsTF, nth_eq, ld1_new, ld1_old, ld_2, ld_3, ld_4, ld_5, ld_7, wr_1, wr_2, wr_3, wr_4, wr_5, wr_7, wget_same, wget_ne, ofList_get, AV.cells, xOff_ptr, xNil_ptr, xExt_tuple, notV, ib_lss, ib_gtr, ib_leq, ib_geq, ib_eql, ib_neq, List.getElem?_cons_zero, List.getElem?_cons_succ, List.length_cons, List.length_nil, Option.bind_some, Nat.zero_add, Nat.add_zero, if_true, if_false, reduceIte, Nat.reduceEqDiff, Nat.reduceAdd, Nat.reduceMul, Nat.reduceLT, Nat.reduceBEq, decide_true, decide_false, Bool.not_true, Bool.not_false, hlen]); (first | refine optR_go ?_ | refine optP_go ?_ | refine boolP_tt ?_ | refine boolP_ff ?_)) | dsimp only)
  refine loopP_go (fun m T S' nx' => ∃ i : Nat, m = rows.length - i ∧ i ≤ rows.length ∧ T 0 = some sl ∧ T 1 = some (.func (.func g) [] cap) ∧ T 7 = some (.int .i64 (rows.length : Int)) ∧ T 8 = some (.int .i64 (i : Int)) ∧ (∀ j, j < i → pr j = false) ∧ Exts (cf G n0) S nx S' nx')
    rows.length ⟨0, by omega, by omega, ?_, ?_, ?_, ?_, by intro j hj; omega, Exts.refl _ _⟩ ?_
  · simp only [setTF_eq, argsTF, nth_eq, reduceIte, Nat.reduceEqDiff, List.getElem?_cons_zero]
  · simp only [setTF_eq, argsTF, nth_eq, reduceIte, Nat.reduceEqDiff, List.getElem?_cons_zero, List.getElem?_cons_succ]
  · simp only [setTF_eq, argsTF, nth_eq, reduceIte, Nat.reduceEqDiff]
  · simp only [setTF_eq, argsTF, nth_eq, reduceIte, Nat.reduceEqDiff]; rfl
  · rintro m T S' nx' ⟨i, rfl, hi, h0, h1, h7, h8, hpre, hE⟩
    have hmany := hr.many
    repeat (with_reducible first | refine optR_go ?_ | refine optP_go ?_ | refine boxP_go ?_ | refine mkP_pair ?_ | refine mkP_go ?_ | refine joinH_go ?_ | refine joinL_go ?_ | refine joinV_go ?_ | refine joinA_go ?_ | refine joinQ_go ?_ | refine letN_go ?_ | refine boxAtP_go ?_ | refine mkAtP_pair ?_ | refine mkAtP_go ?_ | refine guardP_tt ?_ | refine guardP_tf ?_ | refine guardP_ft ?_ | refine guardP_ff ?_ | refine boolP_tt ?_ | refine boolP_ff ?_ | refine invokeP_go ?_ | refine resP_go ?_ | refine resP_go' ?_ | ((conv => arg 1; simp (disch := omega) only [setTF_eq, argsTF, nth_eq, ld1_new, ld1_old, ld_2, ld_3, ld_4, ld_5, ld_7, wr_1, wr_2, wr_3, wr_4, wr_5, wr_7, wget_same, wget_ne, ofList_get, AV.cells, xOff_ptr, xNil_ptr, xExt_tuple, notV, ib_lss, ib_gtr, ib_leq, ib_geq, ib_eql, ib_neq, List.getElem?_cons_zero, List.getElem?_cons_succ, List.length_cons, List.length_nil, Option.bind_some, Nat.zero_add, Nat.add_zero, if_true, if_false, reduceIte, Nat.reduceEqDiff, Nat.reduceAdd, Nat.reduceMul, Nat.reduceLT, Nat.reduceBEq, decide_true, decide_false, Bool.not_true, Bool.not_false, h7, h8]); (first | refine optR_go ?_ | refine optP_go ?_ | refine boolP_tt ?_ | refine boolP_ff ?_)) | dsimp only)
    refine boolP_dec (fun hlt => ?_) (fun hge => ?_)
    · have hlt : i < rows.length := by omega
      have hri : rows[i]? = some rows[i] := List.getElem?_eq_getElem hlt
      have hl := hrow _ (List.getElem_mem hlt)
      have hix := hr.ix i hlt
      have hr' := hr.ext hE
      obtain ⟨c0, c1, c2, hrw⟩ : ∃ c0 c1 c2, rows[i] = [c0, c1, c2] := by
        match rows[i], hl with
        | [a, b, c], _ => exact ⟨a, b, c, rfl⟩
      have k0 := hr'.cell i _ 0 c0 hri (by rw [hrw]; rfl)
      have k1 := hr'.cell i _ 1 c1 hri (by rw [hrw]; rfl)
      have k2 := hr'.cell i _ 2 c2 hri (by rw [hrw]; rfl)
      rw [Nat.add_zero] at k0
      repeat (with_reducible first | refine optR_go ?_ | refine optP_go ?_ | refine boxP_go ?_ | refine mkP_pair ?_ | refine mkP_go ?_ | refine joinH_go ?_ | refine joinL_go ?_ | refine joinV_go ?_ | refine joinA_go ?_ | refine joinQ_go ?_ | refine letN_go ?_ | refine boxAtP_go ?_ | refine mkAtP_pair ?_ | refine mkAtP_go ?_ | refine guardP_tt ?_ | refine guardP_tf ?_ | refine guardP_ft ?_ | refine guardP_ff ?_ | refine boolP_tt ?_ | refine boolP_ff ?_ | refine invokeP_go ?_ | refine resP_go ?_ | refine resP_go' ?_ | ((conv => arg 1; simp (disch := omega) only [setTF_eq, argsTF, nth_eq, ld1_new, ld1_old, ld_2, ld_3, ld_4, ld_5, ld_7, wr_1, wr_2, wr_3, wr_4, wr_5, wr_7, wget_same, wget_ne, ofList_get, AV.cells, xOff_ptr, xNil_ptr, xExt_tuple, notV, ib_lss, ib_gtr, ib_leq, ib_geq, ib_eql, ib_neq, List.getElem?_cons_zero, List.getElem?_cons_succ, List.length_cons, List.length_nil, Option.bind_some, Nat.zero_add, Nat.add_zero, if_true, if_false, reduceIte, Nat.reduceEqDiff, Nat.reduceAdd, Nat.reduceMul, Nat.reduceLT, Nat.reduceBEq, decide_true, decide_false, Bool.not_true, Bool.not_false, h0, h1, h8, hix, k0, k1, k2]); (first | refine optR_go ?_ | refine optP_go ?_ | refine boolP_tt ?_ | refine boolP_ff ?_)) | dsimp only)
      simp only [List.nil_append, List.singleton_append]
      have hc := hp i _ S' nx' hri hE
      rw [hrw] at hc
      refine hc.mono ?_ ?_
      · rintro u S2 n2 ⟨rfl, hE2⟩
        have e1 : aIBin .add (.int .i64 (i : Int)) (.int .i64 1) = some (.int .i64 ((i + 1 : Nat) : Int)) := by rw [ib_add (by omega) (by omega)]; rfl
        repeat (with_reducible first | refine optR_go ?_ | refine optP_go ?_ | refine boxP_go ?_ | refine mkP_pair ?_ | refine mkP_go ?_ | refine joinH_go ?_ | refine joinL_go ?_ | refine joinV_go ?_ | refine joinA_go ?_ | refine joinQ_go ?_ | refine letN_go ?_ | refine boxAtP_go ?_ | refine mkAtP_pair ?_ | refine mkAtP_go ?_ | refine guardP_tt ?_ | refine guardP_tf ?_ | refine guardP_ft ?_ | refine guardP_ff ?_ | refine boolP_tt ?_ | refine boolP_ff ?_ | refine invokeP_go ?_ | refine resP_go ?_ | refine resP_go' ?_ | ((conv => arg 1; simp (disch := omega) only [setTF_eq, argsTF, nth_eq, ld1_new, ld1_old, ld_2, ld_3, ld_4, ld_5, ld_7, wr_1, wr_2, wr_3, wr_4, wr_5, wr_7, wget_same, wget_ne, ofList_get, AV.cells, xOff_ptr, xNil_ptr, xExt_tuple, notV, ib_lss, ib_gtr, ib_leq, ib_geq, ib_eql, ib_neq, List.getElem?_cons_zero, List.getElem?_cons_succ, List.length_cons, List.length_nil, Option.bind_some, Nat.zero_add, Nat.add_zero, if_true, if_false, reduceIte, Nat.reduceEqDiff, Nat.reduceAdd, Nat.reduceMul, Nat.reduceLT, Nat.reduceBEq, decide_true, decide_false, Bool.not_true, Bool.not_false]); (first | refine optR_go ?_ | refine optP_go ?_ | refine boolP_tt ?_ | refine boolP_ff ?_)) | dsimp only)
        cases hq : pr i with
        | true =>
          refine boolP_tt ?_
          exact ⟨_, rfl, .inr ⟨i, hlt, rfl, hq, hpre⟩, hE.trans hE2⟩
        | false =>
          refine boolP_ff ?_
          repeat (with_reducible first | refine optR_go ?_ | refine optP_go ?_ | refine boxP_go ?_ | refine mkP_pair ?_ | refine mkP_go ?_ | refine joinH_go ?_ | refine joinL_go ?_ | refine joinV_go ?_ | refine joinA_go ?_ | refine joinQ_go ?_ | refine letN_go ?_ | refine boxAtP_go ?_ | refine mkAtP_pair ?_ | refine mkAtP_go ?_ | refine guardP_tt ?_ | refine guardP_tf ?_ | refine guardP_ft ?_ | refine guardP_ff ?_ | refine boolP_tt ?_ | refine boolP_ff ?_ | refine invokeP_go ?_ | refine resP_go ?_ | refine resP_go' ?_ | ((conv => arg 1; simp (disch := omega) only [setTF_eq, argsTF, nth_eq, ld1_new, ld1_old, ld_2, ld_3, ld_4, ld_5, ld_7, wr_1, wr_2, wr_3, wr_4, wr_5, wr_7, wget_same, wget_ne, ofList_get, AV.cells, xOff_ptr, xNil_ptr, xExt_tuple, notV, ib_lss, ib_gtr, ib_leq, ib_geq, ib_eql, ib_neq, List.getElem?_cons_zero, List.getElem?_cons_succ, List.length_cons, List.length_nil, Option.bind_some, Nat.zero_add, Nat.add_zero, if_true, if_false, reduceIte, Nat.reduceEqDiff, Nat.reduceAdd, Nat.reduceMul, Nat.reduceLT, Nat.reduceBEq, decide_true, decide_false, Bool.not_true, Bool.not_false, h8, e1]); (first | refine optR_go ?_ | refine optP_go ?_ | refine boolP_tt ?_ | refine boolP_ff ?_)) | dsimp only)
          refine ⟨rows.length - (i + 1), by omega, i + 1, rfl, by omega, ?_, ?_, ?_, ?_, ?_, hE.trans hE2⟩
          · simp only [setTF_eq, reduceIte, Nat.reduceEqDiff]; exact h0
          · simp only [setTF_eq, reduceIte, Nat.reduceEqDiff]; exact h1
          · simp only [setTF_eq, reduceIte, Nat.reduceEqDiff]; exact h7
          · simp only [setTF_eq, reduceIte, Nat.reduceEqDiff]
          · intro j hj
            rcases Nat.lt_succ_iff_lt_or_eq.1 hj with h | rfl
            · exact hpre j h
            · exact hq
      · exact fun _ _ _ h => h.elim
    · exact ⟨_, rfl, .inl ⟨rfl, fun j hj => hpre j (by omega)⟩, hE⟩
/-- a clock -/
structure Ck where
  on : Int
  no : Bool
  par : Int
def crow (c : Ck) : List AV := [.int .i64 c.on, .bool c.no, .int .i64 c.par]
def isCk (L : List Ck) (on : Int) (no : Bool) (i : Nat) : Bool := match L[i]? with | some c => decide (c.on = on) && (c.no == no) | none => false
theorem place1_call (hn : (cf G n0).n0 ≤ nx) (c : Ck) {b1 b2 : Nat} (h1 : b1 < nx) (h2 : b2 < nx) (on : Int) (no : Bool) (k1 : aLd1 (cf G n0) S (.ptr b1 0) = some (.int .i64 on)) (k2 : aLd1 (cf G n0) S (.ptr b2 0) = some (.bool no)) :
    callP (cf G n0) 21 [.agg (crow c), .ptr b1 0, .ptr b2 0] S nx (fun u S' nx' => u = .bool (decide (c.on = on) && (c.no == no)) ∧ Exts (cf G n0) S nx S' nx') (fun _ _ _ => False) := by
  refine callP_fn (R21_chk G n0) rfl ?_
  rw [R21_eq]
  unfold R21 crow
  by_cases e : c.on = on
  · have e1 : decide (c.on = on) = true := by simpa using e
    repeat (with_reducible first | refine optR_go ?_ | refine optP_go ?_ | refine boxP_go ?_ | refine mkP_pair ?_ | refine mkP_go ?_ | refine joinH_go ?_ | refine joinL_go ?_ | refine joinV_go ?_ | refine joinA_go ?_ | refine joinQ_go ?_ | refine letN_go ?_ | refine boxAtP_go ?_ | refine mkAtP_pair ?_ | refine mkAtP_go ?_ | refine guardP_tt ?_ | refine guardP_tf ?_ | refine guardP_ft ?_ | refine guardP_ff ?_ | refine boolP_tt ?_ | refine boolP_ff ?_ | refine invokeP_go ?_ | refine resP_go ?_ | refine resP_go' ?_ | ((conv => arg 1; simp (disch := omega) only [setTF_eq, argsTF, nth_eq, ld1_new, ld1_old, ld_2, ld_3, ld_4, ld_5, ld_7, wr_1, wr_2, wr_3, wr_4, wr_5, wr_7, wget_same, wget_ne, ofList_get, AV.cells, xOff_ptr, xNil_ptr, xExt_tuple, notV, ib_lss, ib_gtr, ib_leq, ib_geq, ib_eql, ib_neq, List.getElem?_cons_zero, List.getElem?_cons_succ, List.length_cons, List.length_nil, Option.bind_some, Nat.zero_add, Nat.add_zero, if_true, if_false, reduceIte, Nat.reduceEqDiff, Nat.reduceAdd, Nat.reduceMul, Nat.reduceLT, Nat.reduceBEq, decide_true, decide_false, Bool.not_true, Bool.not_false, k1, k2, e1, eqB]); (first | refine optR_go ?_ | refine optP_go ?_ | refine boolP_tt ?_ | refine boolP_ff ?_)) | dsimp only)
    exact ⟨by rw [e1, Bool.true_and], ⟨by omega, fun b hb => by simp (disch := omega) only [hget_old]⟩⟩
  · have e1 : decide (c.on = on) = false := by simpa using e
    repeat (with_reducible first | refine optR_go ?_ | refine optP_go ?_ | refine boxP_go ?_ | refine mkP_pair ?_ | refine mkP_go ?_ | refine joinH_go ?_ | refine joinL_go ?_ | refine joinV_go ?_ | refine joinA_go ?_ | refine joinQ_go ?_ | refine letN_go ?_ | refine boxAtP_go ?_ | refine mkAtP_pair ?_ | refine mkAtP_go ?_ | refine guardP_tt ?_ | refine guardP_tf ?_ | refine guardP_ft ?_ | refine guardP_ff ?_ | refine boolP_tt ?_ | refine boolP_ff ?_ | refine invokeP_go ?_ | refine resP_go ?_ | refine resP_go' ?_ | ((conv => arg 1; simp (disch := omega) only [setTF_eq, argsTF, nth_eq, ld1_new, ld1_old, ld_2, ld_3, ld_4, ld_5, ld_7, wr_1, wr_2, wr_3, wr_4, wr_5, wr_7, wget_same, wget_ne, ofList_get, AV.cells, xOff_ptr, xNil_ptr, xExt_tuple, notV, ib_lss, ib_gtr, ib_leq, ib_geq, ib_eql, ib_neq, List.getElem?_cons_zero, List.getElem?_cons_succ, List.length_cons, List.length_nil, Option.bind_some, Nat.zero_add, Nat.add_zero, if_true, if_false, reduceIte, Nat.reduceEqDiff, Nat.reduceAdd, Nat.reduceMul, Nat.reduceLT, Nat.reduceBEq, decide_true, decide_false, Bool.not_true, Bool.not_false, k1, k2, e1, eqB]); (first | refine optR_go ?_ | refine optP_go ?_ | refine boolP_tt ?_ | refine boolP_ff ?_)) | dsimp only)
    exact ⟨by rw [e1, Bool.false_and], ⟨by omega, fun b hb => by simp (disch := omega) only [hget_old]⟩⟩
theorem place_call (hn : (cf G n0).n0 ≤ nx) {bc b : Nat} {sl : AV} {L : List Ck} (hbc : bc < nx) (hc : aLd1 (cf G n0) S (.ptr bc 0) = some sl) (hr : RdA (cf G n0) S nx b sl 50 3 (L.map crow)) (on : Int) (no : Bool) :
    callP (cf G n0) 10 [.ptr bc 0, .int .i64 on, .bool no] S nx (fun u S' nx' => ∃ r, u = .int .i64 r ∧ FirstIs (isCk L on no) L.length r ∧ Exts (cf G n0) S nx S' nx') (fun _ _ _ => False) := by
  refine callP_fn (R10_chk G n0) rfl ?_
  rw [R10_eq]
  unfold R10
  repeat (with_reducible first | refine optR_go ?_ | refine optP_go ?_ | refine boxP_go ?_ | refine mkP_pair ?_ | refine mkP_go ?_ | refine joinH_go ?_ | refine joinL_go ?_ | refine joinV_go ?_ | refine joinA_go ?_ | refine joinQ_go ?_ | refine letN_go ?_ | refine boxAtP_go ?_ | refine mkAtP_pair ?_ | refine mkAtP_go ?_ | refine guardP_tt ?_ | refine guardP_tf ?_ | refine guardP_ft ?_ | refine guardP_ff ?_ | refine boolP_tt ?_ | refine boolP_ff ?_ | refine invokeP_go ?_ | refine resP_go ?_ | refine resP_go' ?_ | ((conv => arg 1; simp (disch := omega) only [setTF_eq, argsTF, nth_eq, ld1_new, ld1_old, ld_2, ld_3, ld_4, ld_5, ld_7, wr_1, wr_2, wr_3, wr_4, wr_5, wr_7, wget_same, wget_ne, ofList_get, AV.cells, xOff_ptr, xNil_ptr, xExt_tuple, notV, ib_lss, ib_gtr, ib_leq, ib_geq, ib_eql, ib_neq, List.getElem?_cons_zero, List.getElem?_cons_succ, List.length_cons, List.length_nil, Option.bind_some, Nat.zero_add, Nat.add_zero, if_true, if_false, reduceIte, Nat.reduceEqDiff, Nat.reduceAdd, Nat.reduceMul, Nat.reduceLT, Nat.reduceBEq, decide_true, decide_false, Bool.not_true, Bool.not_false, eq46, hc]); (first | refine optR_go ?_ | refine optP_go ?_ | refine boolP_tt ?_ | refine boolP_ff ?_)) | dsimp only)
  have hE : Exts (cf G n0) S nx (hset (cf G n0) (hset (cf G n0) S nx (some (.cells (Tr.ofList (AV.int .i64 on).cells 0 .nil) (AV.int .i64 on).cells.length .own))) (nx + 1) (some (.cells (Tr.ofList (AV.bool no).cells 0 .nil) (AV.bool no).cells.length .own))) (nx + 1 + 1) := ⟨by omega, fun b hb => by simp (disch := omega) only [hget_old]⟩
  refine (idx20_call (pr := isCk L on no) (by omega) ((hr.ext hE).lift (by omega)) (by intro r hr; obtain ⟨c, _, rfl⟩ := List.mem_map.1 hr; rfl) ?_).mono ?_ ?_
  · intro i r S' nx' hi hE2
    rw [List.getElem?_map] at hi
    cases hL : L[i]? with
    | none => rw [hL] at hi; cases hi
    | some c =>
      rw [hL] at hi
      simp at hi; subst hi
      have hb := hE2.le
      refine (place1_call (by omega) c (b1 := nx) (b2 := nx + 1) (by omega) (by omega) on no ?_ ?_).mono ?_ (fun _ _ _ h => h)
      · rw [hE2.ld1 _ _ (by omega)]
        simp (disch := omega) only [ld1_old, ld1_new, ofList_get, AV.cells, List.getElem?_cons_zero]
      · rw [hE2.ld1 _ _ (by omega)]
        simp (disch := omega) only [ld1_old, ld1_new, ofList_get, AV.cells, List.getElem?_cons_zero]
      · rintro u S2 n2 ⟨rfl, hE3⟩
        refine ⟨?_, hE3⟩
        simp only [isCk, hL]
  · rintro u S' nx' ⟨r, rfl, hf, hE2⟩
    rw [List.length_map] at hf
    exact ⟨r, rfl, hf, hE.trans hE2⟩
  · exact fun _ _ _ h => h.elim
theorem contains_call (hn : (cf G n0).n0 ≤ nx) (hr : Rd (cf G n0) S lim bn bv sv vs) (hlim : lim ≤ nx) {b bx : Nat} {sl : AV} {ws : List W} (ha : RdA (cf G n0) S nx b sl 66 2 (ws.map fun w => [.int .i64 w.on, .bool w.no])) (hws : ∀ w ∈ ws, MayB vs w)
    (hbx : bx < nx) (hx : aLd1 (cf G n0) S (.ptr bx 0) = some (.ptr bn 0)) :
    callP (cf G n0) 16 [sl, .func (.func 17) [] [.ptr bx 0]] S nx (fun u S' nx' => u = .bool false ∧ Exts (cf G n0) S nx S' nx') (fun _ _ _ => False) := by
  refine callP_fn (R16_chk G n0) rfl ?_
  rw [R16_eq]
  unfold R16
  refine (idx26_call (pr := fun _ => false) hn ha (by intro r hr; obtain ⟨c, _, rfl⟩ := List.mem_map.1 hr; rfl) ?_).mono ?_ ?_
  · intro i r S' nx' hi hE2
    rw [List.getElem?_map] at hi
    cases hL : ws[i]? with
    | none => rw [hL] at hi; cases hi
    | some w =>
      rw [hL] at hi
      simp at hi; subst hi
      have hb := hE2.le
      refine (not_may_call (by omega) (hr.ext (hE2.more' hlim)) (by omega) w (hws w (List.mem_of_getElem? hL)) (by omega) ?_)
      rw [hE2.ld1 _ _ hbx]; exact hx
  · rintro u S' nx' ⟨r, rfl, hf, hE2⟩
    rcases hf with ⟨rfl, _⟩ | ⟨k, _, _, h, _⟩
    · repeat (with_reducible first | refine optR_go ?_ | refine optP_go ?_ | refine boxP_go ?_ | refine mkP_pair ?_ | refine mkP_go ?_ | refine joinH_go ?_ | refine joinL_go ?_ | refine joinV_go ?_ | refine joinA_go ?_ | refine joinQ_go ?_ | refine letN_go ?_ | refine boxAtP_go ?_ | refine mkAtP_pair ?_ | refine mkAtP_go ?_ | refine guardP_tt ?_ | refine guardP_tf ?_ | refine guardP_ft ?_ | refine guardP_ff ?_ | refine boolP_tt ?_ | refine boolP_ff ?_ | refine invokeP_go ?_ | refine resP_go ?_ | refine resP_go' ?_ | ((conv => arg 1; simp (disch := omega) only [setTF_eq, argsTF, nth_eq, ld1_new, ld1_old, ld_2, ld_3, ld_4, ld_5, ld_7, wr_1, wr_2, wr_3, wr_4, wr_5, wr_7, wget_same, wget_ne, ofList_get, AV.cells, xOff_ptr, xNil_ptr, xExt_tuple, notV, ib_lss, ib_gtr, ib_leq, ib_geq, ib_eql, ib_neq, List.getElem?_cons_zero, List.getElem?_cons_succ, List.length_cons, List.length_nil, Option.bind_some, Nat.zero_add, Nat.add_zero, if_true, if_false, reduceIte, Nat.reduceEqDiff, Nat.reduceAdd, Nat.reduceMul, Nat.reduceLT, Nat.reduceBEq, decide_true, decide_false, Bool.not_true, Bool.not_false]); (first | refine optR_go ?_ | refine optP_go ?_ | refine boolP_tt ?_ | refine boolP_ff ?_)) | dsimp only)
      exact ⟨rfl, hE2⟩
    · cases h
  · exact fun _ _ _ h => h.elim
/-- one more row is appended -/
theorem push_step {S0 S' : Tr AObj} {n' bx st sz : Nat} {s : AV} {l m : List AV} {bl : List Nat} {κ : VK} (hst : st = 26 ∨ st = 28 ∨ st = 29 ∨ st = 50 ∨ st = 53 ∨ st = 66) (he : elemOkB (cf G n0) st sz = true) (hSl : Sl (cf G n0) S s sz l bl)
    (hkeep : ∀ y ∈ bl, hget (cf G n0) S' y = hget (cf G n0) S y) (hx : hget (cf G n0) S' bx = some (.cells (Tr.ofList m 0 .nil) sz .own)) (hm : m.length = sz) (h1 : ones m = true) (hb : l.length + m.length ≤ 1048576) (hn' : (cf G n0).n0 ≤ n')
    (hbl : ∀ y ∈ bl, nx ≤ y ∧ y < n') (hE : Exts (cf G n0) S0 nx S' n') (k : ∀ s' S2, Sl (cf G n0) S2 s' sz (l ++ m) (n' :: bl) → Exts (cf G n0) S0 nx S2 (n' + 1) → (∀ y, y ≠ n' → y ∉ bl → hget (cf G n0) S2 y = hget (cf G n0) S' y) → κ s' S2 (n' + 1)) :
    resP (hbuiltV (cf G n0) S' n' .append [st, st] [s, .slice bx 0 1 1]) S' n' κ := by
  obtain ⟨s', S2, h2, h3, h4⟩ := (hSl.keep hkeep).append he (src_of hx (isRow_ofList m) (by rw [hm, Nat.one_mul]) 1) (by rw [hm, Nat.one_mul]) (by decide) h1 hb hn' (fun y hy => (hbl y hy).2)
  exact resP_vals (by rw [app_of _ _ _ _ _ _ _ hst]; exact h2) (k s' S2 h3 (hE.app h4 (fun y hy => (hbl y hy).1)) h4)
def vrow (w : W) : List AV := [.str [], .bool true, .bool false, .int .i64 1, .int .i64 w.on, .bool w.no, .int .i64 0]
def mrow (w : W) : List AV := [.int .i64 0, .int .i64 0, .int .u64 0, .int .i64 w.on, .bool w.no]
def frow (w : W) : List AV := [.int .i64 0, .int .i64 w.on, .bool w.no]
def krow (w : W) : List AV := [.int .i64 w.on, .bool w.no]
theorem krow_len (ws : List W) : (ws.map krow).flatten.length = ws.length * 2 := by
  induction ws with
  | nil => rfl
  | cons a l ih => rw [List.map_cons, List.flatten_cons, List.length_append, ih, List.length_cons]; simp [krow]; omega
theorem krow_snoc (ws : List W) (w : W) : ((ws ++ [w]).map krow).flatten = (ws.map krow).flatten ++ [.int .i64 w.on, .bool w.no] := by simp [krow]
/-- what stands between the loops of all -/
def AllI (G : Tr AObj) (n0 : Nat) (S0 : Tr AObj) (nx bn : Nat) (ws : List W) : HK := fun T S n =>
  T 0 = some (.ptr bn 0) ∧ ∃ s bl, T 3 = some s ∧ Sl (cf G n0) S s 2 (ws.map krow).flatten bl ∧ (∀ y ∈ bl, nx ≤ y ∧ y < n) ∧ Exts (cf G n0) S0 nx S n
theorem all_v {j : HK} {b : Nat} {sl : AV} {ws us : List W} (hn : (cf G n0).n0 ≤ nx) (hr : RdA (cf G n0) S nx b sl 26 7 (us.map vrow)) (hbd : ws.length + us.length ≤ 500000) {T0 : TF} {S1 : Tr AObj} {n1 : Nat}
    (h0 : AllI G n0 S nx bn ws T0 S1 n1) (hsl : T0 13 = some sl) (hln : T0 14 = some (.int .i64 (us.length : Int))) (hix : T0 15 = some (.int .i64 0)) (hj : ∀ T S' n, AllI G n0 S nx bn (ws ++ us) T S' n → j T S' n) :
    loopP (fun g T S' n => optP (T 15) fun t109 => optP (T 14) fun t110 => optR (aIBin .lss t109 t110) fun v111 => joinH (fun T112 S113 n114 => joinH (fun T115 S116 n117 => optP (T115 15) fun t118 => optR (aIBin .add t118 (.int .i64 1)) fun v119 => g (setTF T115 15 v119) S116 n117) fun j120 => optP (T112 13) fun t121 => optP (T112 15) fun t122 => optR (ixSV 7 t121 t122) fun v123 => optR (aLdN (cf G n0) S113 7 v123) fun v124 => optR (mAlloc (cf G n0) 40 (one1 AE.undef) n114) fun r125 => mkP (cf G n0) S113 n114 r125.1 r125.2 fun v126 S127 n128 => optR (stV (cf G n0) S127 7 v126 v124) fun S129 => optP (T112 3) fun t130 => optR (xOff 4 v126) fun v131 => optR (aLd1 (cf G n0) S129 v131) fun v132 => optR (xOff 5 v126) fun v133 => optR (aLd1 (cf G n0) S129 v133) fun v134 => optR (aBuild (cf G n0) 70 [(0, v132), (1, v134)]) fun v135 => optR (sliceV (cf G n0) 66 1 [(0, v135)] n128) fun r136 => mkP (cf G n0) S129 n128 r136.1 r136.2 fun v137 S138 n139 => resP (hbuiltV (cf G n0) S138 n139 .append [66, 66] [t130, v137]) S138 n139 fun v140 S141 n142 => j120 (setTF (setTF T112 5 v126) 3 v140) S141 n142) fun j143 => boolP v111 (j143 (setTF T 16 v111) S' n) (j (setTF T 16 v111) S' n)) T0 S1 n1 := by
  refine loopP_go (fun m T S' n => ∃ i : Nat, m = us.length - i ∧ i ≤ us.length ∧ T 13 = some sl ∧ T 14 = some (.int .i64 (us.length : Int)) ∧ T 15 = some (.int .i64 (i : Int)) ∧ AllI G n0 S nx bn (ws ++ us.take i) T S' n) us.length
    ⟨0, by omega, by omega, hsl, hln, hix, by simpa using h0⟩ ?_
  rintro m T S' n ⟨i, rfl, hi, h1, h2, h3, h4, s, bl, h5, h6, h7, h8⟩
  repeat (with_reducible first | refine optR_go ?_ | refine optP_go ?_ | refine boxP_go ?_ | refine mkP_pair ?_ | refine mkP_go ?_ | refine joinH_go ?_ | refine joinL_go ?_ | refine joinV_go ?_ | refine joinA_go ?_ | refine joinQ_go ?_ | refine letN_go ?_ | refine boxAtP_go ?_ | refine mkAtP_pair ?_ | refine mkAtP_go ?_ | refine guardP_tt ?_ | refine guardP_tf ?_ | refine guardP_ft ?_ | refine guardP_ff ?_ | refine boolP_tt ?_ | refine boolP_ff ?_ | refine invokeP_go ?_ | refine resP_go ?_ | refine resP_go' ?_ | ((conv => arg 1; simp (disch := omega) only [setTF_eq, argsTF, nth_eq, ld1_new, ld1_old, ld_2, ld_3, ld_4, ld_5, ld_7, wr_1, wr_2, wr_3, wr_4, wr_5, wr_7, wget_same, wget_ne, ofList_get, AV.cells, xOff_ptr, xNil_ptr, xExt_tuple, notV, ib_lss, ib_gtr, ib_leq, ib_geq, ib_eql, ib_neq, List.getElem?_cons_zero, List.getElem?_cons_succ, List.length_cons, List.length_nil, Option.bind_some, Nat.zero_add, Nat.add_zero, if_true, if_false, reduceIte, Nat.reduceEqDiff, Nat.reduceAdd, Nat.reduceMul, Nat.reduceLT, Nat.reduceBEq, decide_true, decide_false, Bool.not_true, Bool.not_false, h2, h3]); (first | refine optR_go ?_ | refine optP_go ?_ | refine boolP_tt ?_ | refine boolP_ff ?_)) | dsimp only)
  refine boolP_dec (fun hlt => ?_) (fun hge => ?_)
  · have hlt : i < us.length := by omega
    have hle := h8.le
    have hri : (us.map vrow)[i]? = some (vrow us[i]) := by rw [List.getElem?_map, List.getElem?_eq_getElem hlt]; rfl
    have hixi := hr.ix i (by simpa using hlt)
    have hr' := hr.ext h8
    have hw : us.take (i + 1) = us.take i ++ [us[i]] := List.take_succ_eq_append_getElem hlt
    generalize us[i] = w at hri hw
    have k0 := hr'.cell i _ 0 _ hri rfl
    have k1 := hr'.cell i _ 1 _ hri rfl
    have k2 := hr'.cell i _ 2 _ hri rfl
    have k3 := hr'.cell i _ 3 _ hri rfl
    have k4 := hr'.cell i _ 4 _ hri rfl
    have k5 := hr'.cell i _ 5 _ hri rfl
    have k6 := hr'.cell i _ 6 _ hri rfl
    rw [Nat.add_zero] at k0
    repeat (with_reducible first | refine optR_go ?_ | refine optP_go ?_ | refine boxP_go ?_ | refine mkP_pair ?_ | refine mkP_go ?_ | refine joinH_go ?_ | refine joinL_go ?_ | refine joinV_go ?_ | refine joinA_go ?_ | refine joinQ_go ?_ | refine letN_go ?_ | refine boxAtP_go ?_ | refine mkAtP_pair ?_ | refine mkAtP_go ?_ | refine guardP_tt ?_ | refine guardP_tf ?_ | refine guardP_ft ?_ | refine guardP_ff ?_ | refine boolP_tt ?_ | refine boolP_ff ?_ | refine invokeP_go ?_ | refine resP_go ?_ | refine resP_go' ?_ | ((conv => arg 1; simp (disch := omega) only [setTF_eq, argsTF, nth_eq, ld1_new, ld1_old, ld_2, ld_3, ld_4, ld_5, ld_7, wr_1, wr_2, wr_3, wr_4, wr_5, wr_7, wget_same, wget_ne, ofList_get, AV.cells, xOff_ptr, xNil_ptr, xExt_tuple, notV, ib_lss, ib_gtr, ib_leq, ib_geq, ib_eql, ib_neq, List.getElem?_cons_zero, List.getElem?_cons_succ, List.length_cons, List.length_nil, Option.bind_some, Nat.zero_add, Nat.add_zero, if_true, if_false, reduceIte, Nat.reduceEqDiff, Nat.reduceAdd, Nat.reduceMul, Nat.reduceLT, Nat.reduceBEq, decide_true, decide_false, Bool.not_true, Bool.not_false, h1, h3, hixi, k0, k1, k2, k3, k4, k5, k6, al40]); (first | refine optR_go ?_ | refine optP_go ?_ | refine boolP_tt ?_ | refine boolP_ff ?_)) | dsimp only)
    refine optR_of (st_all (by (first | assumption | (simp (disch := omega) only [hget_new, hget_old] <;> rfl))) (by omega) rfl (by decide) (by decide) rfl) ?_
    repeat (with_reducible first | refine optR_go ?_ | refine optP_go ?_ | refine boxP_go ?_ | refine mkP_pair ?_ | refine mkP_go ?_ | refine joinH_go ?_ | refine joinL_go ?_ | refine joinV_go ?_ | refine joinA_go ?_ | refine joinQ_go ?_ | refine letN_go ?_ | refine boxAtP_go ?_ | refine mkAtP_pair ?_ | refine mkAtP_go ?_ | refine guardP_tt ?_ | refine guardP_tf ?_ | refine guardP_ft ?_ | refine guardP_ff ?_ | refine boolP_tt ?_ | refine boolP_ff ?_ | refine invokeP_go ?_ | refine resP_go ?_ | refine resP_go' ?_ | ((conv => arg 1; simp (disch := omega) only [setTF_eq, argsTF, nth_eq, ld1_new, ld1_old, ld_2, ld_3, ld_4, ld_5, ld_7, wr_1, wr_2, wr_3, wr_4, wr_5, wr_7, wget_same, wget_ne, ofList_get, AV.cells, xOff_ptr, xNil_ptr, xExt_tuple, notV, ib_lss, ib_gtr, ib_leq, ib_geq, ib_eql, ib_neq, List.getElem?_cons_zero, List.getElem?_cons_succ, List.length_cons, List.length_nil, Option.bind_some, Nat.zero_add, Nat.add_zero, if_true, if_false, reduceIte, Nat.reduceEqDiff, Nat.reduceAdd, Nat.reduceMul, Nat.reduceLT, Nat.reduceBEq, decide_true, decide_false, Bool.not_true, Bool.not_false, h5, bd70, sv66]); (first | refine optR_go ?_ | refine optP_go ?_ | refine boolP_tt ?_ | refine boolP_ff ?_)) | dsimp only)
    refine push_step (nx := nx) (S0 := S) (.inr (.inr (.inr (.inr (.inr rfl))))) (el66 G n0) h6 (fun y hy => ?_) (hget_new (by omega)) ?_ ?_ ?_ (by omega) (fun y hy => ?_) ?_ ?_
    · have := h7 y hy
      simp (disch := omega) only [hget_old]
    · rfl
    · rfl
    · rw [krow_len, List.length_append, List.length_take]; simp; omega
    · have := h7 y hy; omega
    · exact ((h8.hset (by omega) (by omega) (by omega)).hset (by omega) (by omega) (by omega) (n2 := n + 1)).hset (by omega) (by omega) (by omega)
    · intro s' S2 hSl2 hE2 _
      have e1 : aIBin .add (.int .i64 (i : Int)) (.int .i64 1) = some (.int .i64 ((i + 1 : Nat) : Int)) := by rw [ib_add (by omega) (by omega)]; rfl
      repeat (with_reducible first | refine optR_go ?_ | refine optP_go ?_ | refine boxP_go ?_ | refine mkP_pair ?_ | refine mkP_go ?_ | refine joinH_go ?_ | refine joinL_go ?_ | refine joinV_go ?_ | refine joinA_go ?_ | refine joinQ_go ?_ | refine letN_go ?_ | refine boxAtP_go ?_ | refine mkAtP_pair ?_ | refine mkAtP_go ?_ | refine guardP_tt ?_ | refine guardP_tf ?_ | refine guardP_ft ?_ | refine guardP_ff ?_ | refine boolP_tt ?_ | refine boolP_ff ?_ | refine invokeP_go ?_ | refine resP_go ?_ | refine resP_go' ?_ | ((conv => arg 1; simp (disch := omega) only [setTF_eq, argsTF, nth_eq, ld1_new, ld1_old, ld_2, ld_3, ld_4, ld_5, ld_7, wr_1, wr_2, wr_3, wr_4, wr_5, wr_7, wget_same, wget_ne, ofList_get, AV.cells, xOff_ptr, xNil_ptr, xExt_tuple, notV, ib_lss, ib_gtr, ib_leq, ib_geq, ib_eql, ib_neq, List.getElem?_cons_zero, List.getElem?_cons_succ, List.length_cons, List.length_nil, Option.bind_some, Nat.zero_add, Nat.add_zero, if_true, if_false, reduceIte, Nat.reduceEqDiff, Nat.reduceAdd, Nat.reduceMul, Nat.reduceLT, Nat.reduceBEq, decide_true, decide_false, Bool.not_true, Bool.not_false, h3, e1]); (first | refine optR_go ?_ | refine optP_go ?_ | refine boolP_tt ?_ | refine boolP_ff ?_)) | dsimp only)
      refine ⟨us.length - (i + 1), by omega, i + 1, rfl, by omega, ?_, ?_, ?_, ?_, s', (n + 1 + 1) :: bl, ?_, ?_, ?_, hE2⟩
      · simp only [setTF_eq, reduceIte, Nat.reduceEqDiff]; exact h1
      · simp only [setTF_eq, reduceIte, Nat.reduceEqDiff]; exact h2
      · simp only [setTF_eq, reduceIte, Nat.reduceEqDiff]
      · simp only [setTF_eq, reduceIte, Nat.reduceEqDiff]; exact h4
      · simp only [setTF_eq, reduceIte, Nat.reduceEqDiff]
      · rw [hw, ← List.append_assoc, krow_snoc]; exact hSl2
      · intro y hy
        rcases List.mem_cons.1 hy with rfl | hy
        · omega
        · have := h7 y hy; omega
  · have hi : i = us.length := by omega
    subst hi
    rw [List.take_length] at h6
    repeat (with_reducible first | refine optR_go ?_ | refine optP_go ?_ | refine boxP_go ?_ | refine mkP_pair ?_ | refine mkP_go ?_ | refine joinH_go ?_ | refine joinL_go ?_ | refine joinV_go ?_ | refine joinA_go ?_ | refine joinQ_go ?_ | refine letN_go ?_ | refine boxAtP_go ?_ | refine mkAtP_pair ?_ | refine mkAtP_go ?_ | refine guardP_tt ?_ | refine guardP_tf ?_ | refine guardP_ft ?_ | refine guardP_ff ?_ | refine boolP_tt ?_ | refine boolP_ff ?_ | refine invokeP_go ?_ | refine resP_go ?_ | refine resP_go' ?_ | ((conv => arg 1; simp (disch := omega) only [setTF_eq, argsTF, nth_eq, ld1_new, ld1_old, ld_2, ld_3, ld_4, ld_5, ld_7, wr_1, wr_2, wr_3, wr_4, wr_5, wr_7, wget_same, wget_ne, ofList_get, AV.cells, xOff_ptr, xNil_ptr, xExt_tuple, notV, ib_lss, ib_gtr, ib_leq, ib_geq, ib_eql, ib_neq, List.getElem?_cons_zero, List.getElem?_cons_succ, List.length_cons, List.length_nil, Option.bind_some, Nat.zero_add, Nat.add_zero, if_true, if_false, reduceIte, Nat.reduceEqDiff, Nat.reduceAdd, Nat.reduceMul, Nat.reduceLT, Nat.reduceBEq, decide_true, decide_false, Bool.not_true, Bool.not_false]); (first | refine optR_go ?_ | refine optP_go ?_ | refine boolP_tt ?_ | refine boolP_ff ?_)) | dsimp only)
    refine hj _ _ _ ⟨?_, s, bl, ?_, h6, h7, h8⟩
    · simp only [setTF_eq, reduceIte, Nat.reduceEqDiff]; exact h4
    · simp only [setTF_eq, reduceIte, Nat.reduceEqDiff]; exact h5
theorem all_m {j : HK} {b : Nat} {sl : AV} {ws us : List W} (hn : (cf G n0).n0 ≤ nx) (hr : RdA (cf G n0) S nx b sl 28 5 (us.map mrow)) (hbd : ws.length + us.length ≤ 500000) {T0 : TF} {S1 : Tr AObj} {n1 : Nat}
    (h0 : AllI G n0 S nx bn ws T0 S1 n1) (hsl : T0 31 = some sl) (hln : T0 32 = some (.int .i64 (us.length : Int))) (hix : T0 33 = some (.int .i64 0)) (hj : ∀ T S' n, AllI G n0 S nx bn (ws ++ us) T S' n → j T S' n) :
    loopP (fun g T S' n => optP (T 33) fun t69 => optP (T 32) fun t70 => optR (aIBin .lss t69 t70) fun v71 => joinH (fun T72 S73 n74 => joinH (fun T75 S76 n77 => optP (T75 33) fun t78 => optR (aIBin .add t78 (.int .i64 1)) fun v79 => g (setTF T75 33 v79) S76 n77) fun j80 => optP (T72 31) fun t81 => optP (T72 33) fun t82 => optR (ixSV 5 t81 t82) fun v83 => optR (aLdN (cf G n0) S73 5 v83) fun v84 => optR (mAlloc (cf G n0) 43 (one1 AE.undef) n74) fun r85 => mkP (cf G n0) S73 n74 r85.1 r85.2 fun v86 S87 n88 => optR (stV (cf G n0) S87 5 v86 v84) fun S89 => optP (T72 3) fun t90 => optR (xOff 3 v86) fun v91 => optR (aLd1 (cf G n0) S89 v91) fun v92 => optR (xOff 4 v86) fun v93 => optR (aLd1 (cf G n0) S89 v93) fun v94 => optR (aBuild (cf G n0) 70 [(0, v92), (1, v94)]) fun v95 => optR (sliceV (cf G n0) 66 1 [(0, v95)] n88) fun r96 => mkP (cf G n0) S89 n88 r96.1 r96.2 fun v97 S98 n99 => resP (hbuiltV (cf G n0) S98 n99 .append [66, 66] [t90, v97]) S98 n99 fun v100 S101 n102 => j80 (setTF (setTF T72 7 v86) 3 v100) S101 n102) fun j103 => boolP v71 (j103 (setTF T 34 v71) S' n) (j (setTF T 34 v71) S' n)) T0 S1 n1 := by
  refine loopP_go (fun m T S' n => ∃ i : Nat, m = us.length - i ∧ i ≤ us.length ∧ T 31 = some sl ∧ T 32 = some (.int .i64 (us.length : Int)) ∧ T 33 = some (.int .i64 (i : Int)) ∧ AllI G n0 S nx bn (ws ++ us.take i) T S' n) us.length
    ⟨0, by omega, by omega, hsl, hln, hix, by simpa using h0⟩ ?_
  rintro m T S' n ⟨i, rfl, hi, h1, h2, h3, h4, s, bl, h5, h6, h7, h8⟩
  repeat (with_reducible first | refine optR_go ?_ | refine optP_go ?_ | refine boxP_go ?_ | refine mkP_pair ?_ | refine mkP_go ?_ | refine joinH_go ?_ | refine joinL_go ?_ | refine joinV_go ?_ | refine joinA_go ?_ | refine joinQ_go ?_ | refine letN_go ?_ | refine boxAtP_go ?_ | refine mkAtP_pair ?_ | refine mkAtP_go ?_ | refine guardP_tt ?_ | refine guardP_tf ?_ | refine guardP_ft ?_ | refine guardP_ff ?_ | refine boolP_tt ?_ | refine boolP_ff ?_ | refine invokeP_go ?_ | refine resP_go ?_ | refine resP_go' ?_ | ((conv => arg 1; simp (disch := omega) only [setTF_eq, argsTF, nth_eq, ld1_new, ld1_old, ld_2, ld_3, ld_4, ld_5, ld_7, wr_1, wr_2, wr_3, wr_4, wr_5, wr_7, wget_same, wget_ne, ofList_get, AV.cells, xOff_ptr, xNil_ptr, xExt_tuple, notV, ib_lss, ib_gtr, ib_leq, ib_geq, ib_eql, ib_neq, List.getElem?_cons_zero, List.getElem?_cons_succ, List.length_cons, List.length_nil, Option.bind_some, Nat.zero_add, Nat.add_zero, if_true, if_false, reduceIte, Nat.reduceEqDiff, Nat.reduceAdd, Nat.reduceMul, Nat.reduceLT, Nat.reduceBEq, decide_true, decide_false, Bool.not_true, Bool.not_false, h2, h3]); (first | refine optR_go ?_ | refine optP_go ?_ | refine boolP_tt ?_ | refine boolP_ff ?_)) | dsimp only)
  refine boolP_dec (fun hlt => ?_) (fun hge => ?_)
  · have hlt : i < us.length := by omega
    have hle := h8.le
    have hri : (us.map mrow)[i]? = some (mrow us[i]) := by rw [List.getElem?_map, List.getElem?_eq_getElem hlt]; rfl
    have hixi := hr.ix i (by simpa using hlt)
    have hr' := hr.ext h8
    have hw : us.take (i + 1) = us.take i ++ [us[i]] := List.take_succ_eq_append_getElem hlt
    generalize us[i] = w at hri hw
    have k0 := hr'.cell i _ 0 _ hri rfl
    have k1 := hr'.cell i _ 1 _ hri rfl
    have k2 := hr'.cell i _ 2 _ hri rfl
    have k3 := hr'.cell i _ 3 _ hri rfl
    have k4 := hr'.cell i _ 4 _ hri rfl
    rw [Nat.add_zero] at k0
    repeat (with_reducible first | refine optR_go ?_ | refine optP_go ?_ | refine boxP_go ?_ | refine mkP_pair ?_ | refine mkP_go ?_ | refine joinH_go ?_ | refine joinL_go ?_ | refine joinV_go ?_ | refine joinA_go ?_ | refine joinQ_go ?_ | refine letN_go ?_ | refine boxAtP_go ?_ | refine mkAtP_pair ?_ | refine mkAtP_go ?_ | refine guardP_tt ?_ | refine guardP_tf ?_ | refine guardP_ft ?_ | refine guardP_ff ?_ | refine boolP_tt ?_ | refine boolP_ff ?_ | refine invokeP_go ?_ | refine resP_go ?_ | refine resP_go' ?_ | ((conv => arg 1; simp (disch := omega) only [setTF_eq, argsTF, nth_eq, ld1_new, ld1_old, ld_2, ld_3, ld_4, ld_5, ld_7, wr_1, wr_2, wr_3, wr_4, wr_5, wr_7, wget_same, wget_ne, ofList_get, AV.cells, xOff_ptr, xNil_ptr, xExt_tuple, notV, ib_lss, ib_gtr, ib_leq, ib_geq, ib_eql, ib_neq, List.getElem?_cons_zero, List.getElem?_cons_succ, List.length_cons, List.length_nil, Option.bind_some, Nat.zero_add, Nat.add_zero, if_true, if_false, reduceIte, Nat.reduceEqDiff, Nat.reduceAdd, Nat.reduceMul, Nat.reduceLT, Nat.reduceBEq, decide_true, decide_false, Bool.not_true, Bool.not_false, h1, h3, hixi, k0, k1, k2, k3, k4, al43]); (first | refine optR_go ?_ | refine optP_go ?_ | refine boolP_tt ?_ | refine boolP_ff ?_)) | dsimp only)
    refine optR_of (st_all (by (first | assumption | (simp (disch := omega) only [hget_new, hget_old] <;> rfl))) (by omega) rfl (by decide) (by decide) rfl) ?_
    repeat (with_reducible first | refine optR_go ?_ | refine optP_go ?_ | refine boxP_go ?_ | refine mkP_pair ?_ | refine mkP_go ?_ | refine joinH_go ?_ | refine joinL_go ?_ | refine joinV_go ?_ | refine joinA_go ?_ | refine joinQ_go ?_ | refine letN_go ?_ | refine boxAtP_go ?_ | refine mkAtP_pair ?_ | refine mkAtP_go ?_ | refine guardP_tt ?_ | refine guardP_tf ?_ | refine guardP_ft ?_ | refine guardP_ff ?_ | refine boolP_tt ?_ | refine boolP_ff ?_ | refine invokeP_go ?_ | refine resP_go ?_ | refine resP_go' ?_ | ((conv => arg 1; simp (disch := omega) only [setTF_eq, argsTF, nth_eq, ld1_new, ld1_old, ld_2, ld_3, ld_4, ld_5, ld_7, wr_1, wr_2, wr_3, wr_4, wr_5, wr_7, wget_same, wget_ne, ofList_get, AV.cells, xOff_ptr, xNil_ptr, xExt_tuple, notV, ib_lss, ib_gtr, ib_leq, ib_geq, ib_eql, ib_neq, List.getElem?_cons_zero, List.getElem?_cons_succ, List.length_cons, List.length_nil, Option.bind_some, Nat.zero_add, Nat.add_zero, if_true, if_false, reduceIte, Nat.reduceEqDiff, Nat.reduceAdd, Nat.reduceMul, Nat.reduceLT, Nat.reduceBEq, decide_true, decide_false, Bool.not_true, Bool.not_false, h5, bd70, sv66]); (first | refine optR_go ?_ | refine optP_go ?_ | refine boolP_tt ?_ | refine boolP_ff ?_)) | dsimp only)
    refine push_step (nx := nx) (S0 := S) (.inr (.inr (.inr (.inr (.inr rfl))))) (el66 G n0) h6 (fun y hy => ?_) (hget_new (by omega)) ?_ ?_ ?_ (by omega) (fun y hy => ?_) ?_ ?_
    · have := h7 y hy
      simp (disch := omega) only [hget_old]
    · rfl
    · rfl
    · rw [krow_len, List.length_append, List.length_take]; simp; omega
    · have := h7 y hy; omega
    · exact ((h8.hset (by omega) (by omega) (by omega)).hset (by omega) (by omega) (by omega) (n2 := n + 1)).hset (by omega) (by omega) (by omega)
    · intro s' S2 hSl2 hE2 _
      have e1 : aIBin .add (.int .i64 (i : Int)) (.int .i64 1) = some (.int .i64 ((i + 1 : Nat) : Int)) := by rw [ib_add (by omega) (by omega)]; rfl
      repeat (with_reducible first | refine optR_go ?_ | refine optP_go ?_ | refine boxP_go ?_ | refine mkP_pair ?_ | refine mkP_go ?_ | refine joinH_go ?_ | refine joinL_go ?_ | refine joinV_go ?_ | refine joinA_go ?_ | refine joinQ_go ?_ | refine letN_go ?_ | refine boxAtP_go ?_ | refine mkAtP_pair ?_ | refine mkAtP_go ?_ | refine guardP_tt ?_ | refine guardP_tf ?_ | refine guardP_ft ?_ | refine guardP_ff ?_ | refine boolP_tt ?_ | refine boolP_ff ?_ | refine invokeP_go ?_ | refine resP_go ?_ | refine resP_go' ?_ | ((conv => arg 1; simp (disch := omega) only [setTF_eq, argsTF, nth_eq, ld1_new, ld1_old, ld_2, ld_3, ld_4, ld_5, ld_7, wr_1, wr_2, wr_3, wr_4, wr_5, wr_7, wget_same, wget_ne, ofList_get, AV.cells, xOff_ptr, xNil_ptr, xExt_tuple, notV, ib_lss, ib_gtr, ib_leq, ib_geq, ib_eql, ib_neq, List.getElem?_cons_zero, List.getElem?_cons_succ, List.length_cons, List.length_nil, Option.bind_some, Nat.zero_add, Nat.add_zero, if_true, if_false, reduceIte, Nat.reduceEqDiff, Nat.reduceAdd, Nat.reduceMul, Nat.reduceLT, Nat.reduceBEq, decide_true, decide_false, Bool.not_true, Bool.not_false, h3, e1]); (first | refine optR_go ?_ | refine optP_go ?_ | refine boolP_tt ?_ | refine boolP_ff ?_)) | dsimp only)
      refine ⟨us.length - (i + 1), by omega, i + 1, rfl, by omega, ?_, ?_, ?_, ?_, s', (n + 1 + 1) :: bl, ?_, ?_, ?_, hE2⟩
      · simp only [setTF_eq, reduceIte, Nat.reduceEqDiff]; exact h1
      · simp only [setTF_eq, reduceIte, Nat.reduceEqDiff]; exact h2
      · simp only [setTF_eq, reduceIte, Nat.reduceEqDiff]
      · simp only [setTF_eq, reduceIte, Nat.reduceEqDiff]; exact h4
      · simp only [setTF_eq, reduceIte, Nat.reduceEqDiff]
      · rw [hw, ← List.append_assoc, krow_snoc]; exact hSl2
      · intro y hy
        rcases List.mem_cons.1 hy with rfl | hy
        · omega
        · have := h7 y hy; omega
  · have hi : i = us.length := by omega
    subst hi
    rw [List.take_length] at h6
    repeat (with_reducible first | refine optR_go ?_ | refine optP_go ?_ | refine boxP_go ?_ | refine mkP_pair ?_ | refine mkP_go ?_ | refine joinH_go ?_ | refine joinL_go ?_ | refine joinV_go ?_ | refine joinA_go ?_ | refine joinQ_go ?_ | refine letN_go ?_ | refine boxAtP_go ?_ | refine mkAtP_pair ?_ | refine mkAtP_go ?_ | refine guardP_tt ?_ | refine guardP_tf ?_ | refine guardP_ft ?_ | refine guardP_ff ?_ | refine boolP_tt ?_ | refine boolP_ff ?_ | refine invokeP_go ?_ | refine resP_go ?_ | refine resP_go' ?_ | ((conv => arg 1; simp (disch := omega) only [setTF_eq, argsTF, nth_eq, ld1_new, ld1_old, ld_2, ld_3, ld_4, ld_5, ld_7, wr_1, wr_2, wr_3, wr_4, wr_5, wr_7, wget_same, wget_ne, ofList_get, AV.cells, xOff_ptr, xNil_ptr, xExt_tuple, notV, ib_lss, ib_gtr, ib_leq, ib_geq, ib_eql, ib_neq, List.getElem?_cons_zero, List.getElem?_cons_succ, List.length_cons, List.length_nil, Option.bind_some, Nat.zero_add, Nat.add_zero, if_true, if_false, reduceIte, Nat.reduceEqDiff, Nat.reduceAdd, Nat.reduceMul, Nat.reduceLT, Nat.reduceBEq, decide_true, decide_false, Bool.not_true, Bool.not_false]); (first | refine optR_go ?_ | refine optP_go ?_ | refine boolP_tt ?_ | refine boolP_ff ?_)) | dsimp only)
    refine hj _ _ _ ⟨?_, s, bl, ?_, h6, h7, h8⟩
    · simp only [setTF_eq, reduceIte, Nat.reduceEqDiff]; exact h4
    · simp only [setTF_eq, reduceIte, Nat.reduceEqDiff]; exact h5
theorem all_f {j : HK} {b : Nat} {sl : AV} {ws us : List W} (hn : (cf G n0).n0 ≤ nx) (hr : RdA (cf G n0) S nx b sl 29 3 (us.map frow)) (hbd : ws.length + us.length ≤ 500000) {T0 : TF} {S1 : Tr AObj} {n1 : Nat}
    (h0 : AllI G n0 S nx bn ws T0 S1 n1) (hsl : T0 49 = some sl) (hln : T0 50 = some (.int .i64 (us.length : Int))) (hix : T0 51 = some (.int .i64 0)) (hj : ∀ T S' n, AllI G n0 S nx bn (ws ++ us) T S' n → j T S' n) :
    loopP (fun g T S' n => optP (T 51) fun t29 => optP (T 50) fun t30 => optR (aIBin .lss t29 t30) fun v31 => joinH (fun T32 S33 n34 => joinH (fun T35 S36 n37 => optP (T35 51) fun t38 => optR (aIBin .add t38 (.int .i64 1)) fun v39 => g (setTF T35 51 v39) S36 n37) fun j40 => optP (T32 49) fun t41 => optP (T32 51) fun t42 => optR (ixSV 3 t41 t42) fun v43 => optR (aLdN (cf G n0) S33 3 v43) fun v44 => optR (mAlloc (cf G n0) 45 (one1 AE.undef) n34) fun r45 => mkP (cf G n0) S33 n34 r45.1 r45.2 fun v46 S47 n48 => optR (stV (cf G n0) S47 3 v46 v44) fun S49 => optP (T32 3) fun t50 => optR (xOff 1 v46) fun v51 => optR (aLd1 (cf G n0) S49 v51) fun v52 => optR (xOff 2 v46) fun v53 => optR (aLd1 (cf G n0) S49 v53) fun v54 => optR (aBuild (cf G n0) 70 [(0, v52), (1, v54)]) fun v55 => optR (sliceV (cf G n0) 66 1 [(0, v55)] n48) fun r56 => mkP (cf G n0) S49 n48 r56.1 r56.2 fun v57 S58 n59 => resP (hbuiltV (cf G n0) S58 n59 .append [66, 66] [t50, v57]) S58 n59 fun v60 S61 n62 => j40 (setTF (setTF T32 9 v46) 3 v60) S61 n62) fun j63 => boolP v31 (j63 (setTF T 52 v31) S' n) (j (setTF T 52 v31) S' n)) T0 S1 n1 := by
  refine loopP_go (fun m T S' n => ∃ i : Nat, m = us.length - i ∧ i ≤ us.length ∧ T 49 = some sl ∧ T 50 = some (.int .i64 (us.length : Int)) ∧ T 51 = some (.int .i64 (i : Int)) ∧ AllI G n0 S nx bn (ws ++ us.take i) T S' n) us.length
    ⟨0, by omega, by omega, hsl, hln, hix, by simpa using h0⟩ ?_
  rintro m T S' n ⟨i, rfl, hi, h1, h2, h3, h4, s, bl, h5, h6, h7, h8⟩
  repeat (with_reducible first | refine optR_go ?_ | refine optP_go ?_ | refine boxP_go ?_ | refine mkP_pair ?_ | refine mkP_go ?_ | refine joinH_go ?_ | refine joinL_go ?_ | refine joinV_go ?_ | refine joinA_go ?_ | refine joinQ_go ?_ | refine letN_go ?_ | refine boxAtP_go ?_ | refine mkAtP_pair ?_ | refine mkAtP_go ?_ | refine guardP_tt ?_ | refine guardP_tf ?_ | refine guardP_ft ?_ | refine guardP_ff ?_ | refine boolP_tt ?_ | refine boolP_ff ?_ | refine invokeP_go ?_ | refine resP_go ?_ | refine resP_go' ?_ | ((conv => arg 1; simp (disch := omega) only [setTF_eq, argsTF, nth_eq, ld1_new, ld1_old, ld_2, ld_3, ld_4, ld_5, ld_7, wr_1, wr_2, wr_3, wr_4, wr_5, wr_7, wget_same, wget_ne, ofList_get, AV.cells, xOff_ptr, xNil_ptr, xExt_tuple, notV, ib_lss, ib_gtr, ib_leq, ib_geq, ib_eql, ib_neq, List.getElem?_cons_zero, List.getElem?_cons_succ, List.length_cons, List.length_nil, Option.bind_some, Nat.zero_add, Nat.add_zero, if_true, if_false, reduceIte, Nat.reduceEqDiff, Nat.reduceAdd, Nat.reduceMul, Nat.reduceLT, Nat.reduceBEq, decide_true, decide_false, Bool.not_true, Bool.not_false, h2, h3]); (first | refine optR_go ?_ | refine optP_go ?_ | refine boolP_tt ?_ | refine boolP_ff ?_)) | dsimp only)
  refine boolP_dec (fun hlt => ?_) (fun hge => ?_)
  · have hlt : i < us.length := by omega
    have hle := h8.le
    have hri : (us.map frow)[i]? = some (frow us[i]) := by rw [List.getElem?_map, List.getElem?_eq_getElem hlt]; rfl
    have hixi := hr.ix i (by simpa using hlt)
    have hr' := hr.ext h8
    have hw : us.take (i + 1) = us.take i ++ [us[i]] := List.take_succ_eq_append_getElem hlt
    generalize us[i] = w at hri hw
    have k0 := hr'.cell i _ 0 _ hri rfl
    have k1 := hr'.cell i _ 1 _ hri rfl
    have k2 := hr'.cell i _ 2 _ hri rfl
    rw [Nat.add_zero] at k0
    repeat (with_reducible first | refine optR_go ?_ | refine optP_go ?_ | refine boxP_go ?_ | refine mkP_pair ?_ | refine mkP_go ?_ | refine joinH_go ?_ | refine joinL_go ?_ | refine joinV_go ?_ | refine joinA_go ?_ | refine joinQ_go ?_ | refine letN_go ?_ | refine boxAtP_go ?_ | refine mkAtP_pair ?_ | refine mkAtP_go ?_ | refine guardP_tt ?_ | refine guardP_tf ?_ | refine guardP_ft ?_ | refine guardP_ff ?_ | refine boolP_tt ?_ | refine boolP_ff ?_ | refine invokeP_go ?_ | refine resP_go ?_ | refine resP_go' ?_ | ((conv => arg 1; simp (disch := omega) only [setTF_eq, argsTF, nth_eq, ld1_new, ld1_old, ld_2, ld_3, ld_4, ld_5, ld_7, wr_1, wr_2, wr_3, wr_4, wr_5, wr_7, wget_same, wget_ne, ofList_get, AV.cells, xOff_ptr, xNil_ptr, xExt_tuple, notV, ib_lss, ib_gtr, ib_leq, ib_geq, ib_eql, ib_neq, List.getElem?_cons_zero, List.getElem?_cons_succ, List.length_cons, List.length_nil, Option.bind_some, Nat.zero_add, Nat.add_zero, if_true, if_false, reduceIte, Nat.reduceEqDiff, Nat.reduceAdd, Nat.reduceMul, Nat.reduceLT, Nat.reduceBEq, decide_true, decide_false, Bool.not_true, Bool.not_false, h1, h3, hixi, k0, k1, k2, al45]); (first | refine optR_go ?_ | refine optP_go ?_ | refine boolP_tt ?_ | refine boolP_ff ?_)) | dsimp only)
    refine optR_of (st_all (by (first | assumption | (simp (disch := omega) only [hget_new, hget_old] <;> rfl))) (by omega) rfl (by decide) (by decide) rfl) ?_
    repeat (with_reducible first | refine optR_go ?_ | refine optP_go ?_ | refine boxP_go ?_ | refine mkP_pair ?_ | refine mkP_go ?_ | refine joinH_go ?_ | refine joinL_go ?_ | refine joinV_go ?_ | refine joinA_go ?_ | refine joinQ_go ?_ | refine letN_go ?_ | refine boxAtP_go ?_ | refine mkAtP_pair ?_ | refine mkAtP_go ?_ | refine guardP_tt ?_ | refine guardP_tf ?_ | refine guardP_ft ?_ | refine guardP_ff ?_ | refine boolP_tt ?_ | refine boolP_ff ?_ | refine invokeP_go ?_ | refine resP_go ?_ | refine resP_go' ?_ | ((conv => arg 1; simp (disch := omega) only [setTF_eq, argsTF, nth_eq, ld1_new, ld1_old, ld_2, ld_3, ld_4, ld_5, ld_7, wr_1, wr_2, wr_3, wr_4, wr_5, wr_7, wget_same, wget_ne, ofList_get, AV.cells, xOff_ptr, xNil_ptr, xExt_tuple, notV, ib_lss, ib_gtr, ib_leq, ib_geq, ib_eql, ib_neq, List.getElem?_cons_zero, List.getElem?_cons_succ, List.length_cons, List.length_nil, Option.bind_some, Nat.zero_add, Nat.add_zero, if_true, if_false, reduceIte, Nat.reduceEqDiff, Nat.reduceAdd, Nat.reduceMul, Nat.reduceLT, Nat.reduceBEq, decide_true, decide_false, Bool.not_true, Bool.not_false, h5, bd70, sv66]); (first | refine optR_go ?_ | refine optP_go ?_ | refine boolP_tt ?_ | refine boolP_ff ?_)) | dsimp only)
    refine push_step (nx := nx) (S0 := S) (.inr (.inr (.inr (.inr (.inr rfl))))) (el66 G n0) h6 (fun y hy => ?_) (hget_new (by omega)) ?_ ?_ ?_ (by omega) (fun y hy => ?_) ?_ ?_
    · have := h7 y hy
      simp (disch := omega) only [hget_old]
    · rfl
    · rfl
    · rw [krow_len, List.length_append, List.length_take]; simp; omega
    · have := h7 y hy; omega
    · exact ((h8.hset (by omega) (by omega) (by omega)).hset (by omega) (by omega) (by omega) (n2 := n + 1)).hset (by omega) (by omega) (by omega)
    · intro s' S2 hSl2 hE2 _
      have e1 : aIBin .add (.int .i64 (i : Int)) (.int .i64 1) = some (.int .i64 ((i + 1 : Nat) : Int)) := by rw [ib_add (by omega) (by omega)]; rfl
      repeat (with_reducible first | refine optR_go ?_ | refine optP_go ?_ | refine boxP_go ?_ | refine mkP_pair ?_ | refine mkP_go ?_ | refine joinH_go ?_ | refine joinL_go ?_ | refine joinV_go ?_ | refine joinA_go ?_ | refine joinQ_go ?_ | refine letN_go ?_ | refine boxAtP_go ?_ | refine mkAtP_pair ?_ | refine mkAtP_go ?_ | refine guardP_tt ?_ | refine guardP_tf ?_ | refine guardP_ft ?_ | refine guardP_ff ?_ | refine boolP_tt ?_ | refine boolP_ff ?_ | refine invokeP_go ?_ | refine resP_go ?_ | refine resP_go' ?_ | ((conv => arg 1; simp (disch := omega) only [setTF_eq, argsTF, nth_eq, ld1_new, ld1_old, ld_2, ld_3, ld_4, ld_5, ld_7, wr_1, wr_2, wr_3, wr_4, wr_5, wr_7, wget_same, wget_ne, ofList_get, AV.cells, xOff_ptr, xNil_ptr, xExt_tuple, notV, ib_lss, ib_gtr, ib_leq, ib_geq, ib_eql, ib_neq, List.getElem?_cons_zero, List.getElem?_cons_succ, List.length_cons, List.length_nil, Option.bind_some, Nat.zero_add, Nat.add_zero, if_true, if_false, reduceIte, Nat.reduceEqDiff, Nat.reduceAdd, Nat.reduceMul, Nat.reduceLT, Nat.reduceBEq, decide_true, decide_false, Bool.not_true, Bool.not_false, h3, e1]); (first | refine optR_go ?_ | refine optP_go ?_ | refine boolP_tt ?_ | refine boolP_ff ?_)) | dsimp only)
      refine ⟨us.length - (i + 1), by omega, i + 1, rfl, by omega, ?_, ?_, ?_, ?_, s', (n + 1 + 1) :: bl, ?_, ?_, ?_, hE2⟩
      · simp only [setTF_eq, reduceIte, Nat.reduceEqDiff]; exact h1
      · simp only [setTF_eq, reduceIte, Nat.reduceEqDiff]; exact h2
      · simp only [setTF_eq, reduceIte, Nat.reduceEqDiff]
      · simp only [setTF_eq, reduceIte, Nat.reduceEqDiff]; exact h4
      · simp only [setTF_eq, reduceIte, Nat.reduceEqDiff]
      · rw [hw, ← List.append_assoc, krow_snoc]; exact hSl2
      · intro y hy
        rcases List.mem_cons.1 hy with rfl | hy
        · omega
        · have := h7 y hy; omega
  · have hi : i = us.length := by omega
    subst hi
    rw [List.take_length] at h6
    repeat (with_reducible first | refine optR_go ?_ | refine optP_go ?_ | refine boxP_go ?_ | refine mkP_pair ?_ | refine mkP_go ?_ | refine joinH_go ?_ | refine joinL_go ?_ | refine joinV_go ?_ | refine joinA_go ?_ | refine joinQ_go ?_ | refine letN_go ?_ | refine boxAtP_go ?_ | refine mkAtP_pair ?_ | refine mkAtP_go ?_ | refine guardP_tt ?_ | refine guardP_tf ?_ | refine guardP_ft ?_ | refine guardP_ff ?_ | refine boolP_tt ?_ | refine boolP_ff ?_ | refine invokeP_go ?_ | refine resP_go ?_ | refine resP_go' ?_ | ((conv => arg 1; simp (disch := omega) only [setTF_eq, argsTF, nth_eq, ld1_new, ld1_old, ld_2, ld_3, ld_4, ld_5, ld_7, wr_1, wr_2, wr_3, wr_4, wr_5, wr_7, wget_same, wget_ne, ofList_get, AV.cells, xOff_ptr, xNil_ptr, xExt_tuple, notV, ib_lss, ib_gtr, ib_leq, ib_geq, ib_eql, ib_neq, List.getElem?_cons_zero, List.getElem?_cons_succ, List.length_cons, List.length_nil, Option.bind_some, Nat.zero_add, Nat.add_zero, if_true, if_false, reduceIte, Nat.reduceEqDiff, Nat.reduceAdd, Nat.reduceMul, Nat.reduceLT, Nat.reduceBEq, decide_true, decide_false, Bool.not_true, Bool.not_false]); (first | refine optR_go ?_ | refine optP_go ?_ | refine boolP_tt ?_ | refine boolP_ff ?_)) | dsimp only)
    refine hj _ _ _ ⟨?_, s, bl, ?_, h6, h7, h8⟩
    · simp only [setTF_eq, reduceIte, Nat.reduceEqDiff]; exact h4
    · simp only [setTF_eq, reduceIte, Nat.reduceEqDiff]; exact h5
theorem Sl.nil (C : Cfg) (S : Tr AObj) (sz : Nat) : Sl C S .nilslice sz [] [] := .inl ⟨rfl, rfl, rfl⟩
/-- a normal program, as it is read: its variables, memories, firsts -/
structure NM (C : Cfg) (S : Tr AObj) (lim bn : Nat) (sv sm sf : AV) (bv bm bf : Nat) (vs ms fs : List W) : Prop where
  hbn : bn < lim
  lv : aLd1 C S (.ptr bn 0) = some sv
  lm : aLd1 C S (.ptr bn 2) = some sm
  lf : aLd1 C S (.ptr bn 3) = some sf
  rv : RdA C S lim bv sv 26 7 (vs.map vrow)
  rm : RdA C S lim bm sm 28 5 (ms.map mrow)
  rf : RdA C S lim bf sf 29 3 (fs.map frow)
theorem all_call (hn : (cf G n0).n0 ≤ nx) {sm sf : AV} {bm bf : Nat} {ms fs : List W} (h : NM (cf G n0) S nx bn sv sm sf bv bm bf vs ms fs) (hv : vs.length ≤ 1000) (hm : ms.length ≤ 1000) (hf : fs.length ≤ 1000) :
    callP (cf G n0) 15 [.ptr bn 0] S nx (fun u S' nx' => ∃ bl, Sl (cf G n0) S' u 2 ((vs ++ ms ++ fs).map krow).flatten bl ∧ (∀ y ∈ bl, nx ≤ y ∧ y < nx') ∧ Exts (cf G n0) S nx S' nx') (fun _ _ _ => False) := by
  refine callP_fn (R15_chk G n0) rfl ?_
  rw [R15_eq]
  unfold R15
  have l1 := h.lv
  have l2 := h.rv.len S
  rw [List.length_map] at l2
  repeat (with_reducible first | refine optR_go ?_ | refine optP_go ?_ | refine boxP_go ?_ | refine mkP_pair ?_ | refine mkP_go ?_ | refine joinL_go ?_ | refine joinV_go ?_ | refine joinA_go ?_ | refine joinQ_go ?_ | refine letN_go ?_ | refine boxAtP_go ?_ | refine mkAtP_pair ?_ | refine mkAtP_go ?_ | refine guardP_tt ?_ | refine guardP_tf ?_ | refine guardP_ft ?_ | refine guardP_ff ?_ | refine boolP_tt ?_ | refine boolP_ff ?_ | refine invokeP_go ?_ | refine resP_go ?_ | refine resP_go' ?_ | ((conv => arg 1; simp (disch := omega) only [setTF_eq, argsTF, nth_eq, ld1_new, ld1_old, ld_2, ld_3, ld_4, ld_5, ld_7, wr_1, wr_2, wr_3, wr_4, wr_5, wr_7, wget_same, wget_ne, ofList_get, AV.cells, xOff_ptr, xNil_ptr, xExt_tuple, notV, ib_lss, ib_gtr, ib_leq, ib_geq, ib_eql, ib_neq, List.getElem?_cons_zero, List.getElem?_cons_succ, List.length_cons, List.length_nil, Option.bind_some, Nat.zero_add, Nat.add_zero, if_true, if_false, reduceIte, Nat.reduceEqDiff, Nat.reduceAdd, Nat.reduceMul, Nat.reduceLT, Nat.reduceBEq, decide_true, decide_false, Bool.not_true, Bool.not_false, l1, l2]); (first | refine optR_go ?_ | refine optP_go ?_ | refine boolP_tt ?_ | refine boolP_ff ?_)) | dsimp only)
  refine joinH_of (AllI G n0 S nx bn ([] ++ vs)) (fun j hj => ?_) ?_
  refine all_v (G := G) (n0 := n0) (S := S) (nx := nx) (bn := bn) (ws := []) hn h.rv (by simp; omega) ⟨?_, .nilslice, [], ?_, Sl.nil _ _ _, (fun y hy => by cases hy), Exts.refl _ _⟩ ?_ ?_ ?_ hj
  · simp only [setTF_eq, reduceIte, Nat.reduceEqDiff, argsTF, nth_eq, List.getElem?_cons_zero]
  · simp only [setTF_eq, reduceIte, Nat.reduceEqDiff]
  · simp only [setTF_eq, reduceIte, Nat.reduceEqDiff]
  · simp only [setTF_eq, reduceIte, Nat.reduceEqDiff]
  · simp only [setTF_eq, reduceIte, Nat.reduceEqDiff]
  rintro T1 S1 n1 ⟨t0, s1, bl1, t3, hs1, hb1, hE1⟩
  have hbn := h.hbn
  have m1 : aLd1 (cf G n0) S1 (.ptr bn 2) = some sm := by rw [hE1.ld1 _ _ hbn]; exact h.lm
  have m2 := h.rm.len S1
  rw [List.length_map] at m2
  repeat (with_reducible first | refine optR_go ?_ | refine optP_go ?_ | refine boxP_go ?_ | refine mkP_pair ?_ | refine mkP_go ?_ | refine joinL_go ?_ | refine joinV_go ?_ | refine joinA_go ?_ | refine joinQ_go ?_ | refine letN_go ?_ | refine boxAtP_go ?_ | refine mkAtP_pair ?_ | refine mkAtP_go ?_ | refine guardP_tt ?_ | refine guardP_tf ?_ | refine guardP_ft ?_ | refine guardP_ff ?_ | refine boolP_tt ?_ | refine boolP_ff ?_ | refine invokeP_go ?_ | refine resP_go ?_ | refine resP_go' ?_ | ((conv => arg 1; simp (disch := omega) only [setTF_eq, argsTF, nth_eq, ld1_new, ld1_old, ld_2, ld_3, ld_4, ld_5, ld_7, wr_1, wr_2, wr_3, wr_4, wr_5, wr_7, wget_same, wget_ne, ofList_get, AV.cells, xOff_ptr, xNil_ptr, xExt_tuple, notV, ib_lss, ib_gtr, ib_leq, ib_geq, ib_eql, ib_neq, List.getElem?_cons_zero, List.getElem?_cons_succ, List.length_cons, List.length_nil, Option.bind_some, Nat.zero_add, Nat.add_zero, if_true, if_false, reduceIte, Nat.reduceEqDiff, Nat.reduceAdd, Nat.reduceMul, Nat.reduceLT, Nat.reduceBEq, decide_true, decide_false, Bool.not_true, Bool.not_false, t0, m1, m2]); (first | refine optR_go ?_ | refine optP_go ?_ | refine boolP_tt ?_ | refine boolP_ff ?_)) | dsimp only)
  refine joinH_of (AllI G n0 S nx bn ([] ++ vs ++ ms)) (fun j hj => ?_) ?_
  refine all_m (G := G) (n0 := n0) (S := S) (nx := nx) (bn := bn) (ws := [] ++ vs) hn h.rm (by simp; omega) ⟨?_, s1, bl1, ?_, hs1, hb1, hE1⟩ ?_ ?_ ?_ hj
  · simp only [setTF_eq, reduceIte, Nat.reduceEqDiff]; exact t0
  · simp only [setTF_eq, reduceIte, Nat.reduceEqDiff]; exact t3
  · simp only [setTF_eq, reduceIte, Nat.reduceEqDiff]
  · simp only [setTF_eq, reduceIte, Nat.reduceEqDiff]
  · simp only [setTF_eq, reduceIte, Nat.reduceEqDiff]
  rintro T2 S2 n2 ⟨u0, s2, bl2, u3, hs2, hb2, hE2⟩
  have f1 : aLd1 (cf G n0) S2 (.ptr bn 3) = some sf := by rw [hE2.ld1 _ _ hbn]; exact h.lf
  have f2 := h.rf.len S2
  rw [List.length_map] at f2
  repeat (with_reducible first | refine optR_go ?_ | refine optP_go ?_ | refine boxP_go ?_ | refine mkP_pair ?_ | refine mkP_go ?_ | refine joinL_go ?_ | refine joinV_go ?_ | refine joinA_go ?_ | refine joinQ_go ?_ | refine letN_go ?_ | refine boxAtP_go ?_ | refine mkAtP_pair ?_ | refine mkAtP_go ?_ | refine guardP_tt ?_ | refine guardP_tf ?_ | refine guardP_ft ?_ | refine guardP_ff ?_ | refine boolP_tt ?_ | refine boolP_ff ?_ | refine invokeP_go ?_ | refine resP_go ?_ | refine resP_go' ?_ | ((conv => arg 1; simp (disch := omega) only [setTF_eq, argsTF, nth_eq, ld1_new, ld1_old, ld_2, ld_3, ld_4, ld_5, ld_7, wr_1, wr_2, wr_3, wr_4, wr_5, wr_7, wget_same, wget_ne, ofList_get, AV.cells, xOff_ptr, xNil_ptr, xExt_tuple, notV, ib_lss, ib_gtr, ib_leq, ib_geq, ib_eql, ib_neq, List.getElem?_cons_zero, List.getElem?_cons_succ, List.length_cons, List.length_nil, Option.bind_some, Nat.zero_add, Nat.add_zero, if_true, if_false, reduceIte, Nat.reduceEqDiff, Nat.reduceAdd, Nat.reduceMul, Nat.reduceLT, Nat.reduceBEq, decide_true, decide_false, Bool.not_true, Bool.not_false, u0, f1, f2]); (first | refine optR_go ?_ | refine optP_go ?_ | refine boolP_tt ?_ | refine boolP_ff ?_)) | dsimp only)
  refine joinH_of (AllI G n0 S nx bn ([] ++ vs ++ ms ++ fs)) (fun j hj => ?_) ?_
  refine all_f (G := G) (n0 := n0) (S := S) (nx := nx) (bn := bn) (ws := [] ++ vs ++ ms) hn h.rf (by simp; omega) ⟨?_, s2, bl2, ?_, hs2, hb2, hE2⟩ ?_ ?_ ?_ hj
  · simp only [setTF_eq, reduceIte, Nat.reduceEqDiff]; exact u0
  · simp only [setTF_eq, reduceIte, Nat.reduceEqDiff]; exact u3
  · simp only [setTF_eq, reduceIte, Nat.reduceEqDiff]
  · simp only [setTF_eq, reduceIte, Nat.reduceEqDiff]
  · simp only [setTF_eq, reduceIte, Nat.reduceEqDiff]
  rintro T3 S3 n3 ⟨v0, s3, bl3, v3, hs3, hb3, hE3⟩
  repeat (with_reducible first | refine optR_go ?_ | refine optP_go ?_ | refine boxP_go ?_ | refine mkP_pair ?_ | refine mkP_go ?_ | refine joinH_go ?_ | refine joinL_go ?_ | refine joinV_go ?_ | refine joinA_go ?_ | refine joinQ_go ?_ | refine letN_go ?_ | refine boxAtP_go ?_ | refine mkAtP_pair ?_ | refine mkAtP_go ?_ | refine guardP_tt ?_ | refine guardP_tf ?_ | refine guardP_ft ?_ | refine guardP_ff ?_ | refine boolP_tt ?_ | refine boolP_ff ?_ | refine invokeP_go ?_ | refine resP_go ?_ | refine resP_go' ?_ | ((conv => arg 1; simp (disch := omega) only [setTF_eq, argsTF, nth_eq, ld1_new, ld1_old, ld_2, ld_3, ld_4, ld_5, ld_7, wr_1, wr_2, wr_3, wr_4, wr_5, wr_7, wget_same, wget_ne, ofList_get, AV.cells, xOff_ptr, xNil_ptr, xExt_tuple, notV, ib_lss, ib_gtr, ib_leq, ib_geq, ib_eql, ib_neq, List.getElem?_cons_zero, List.getElem?_cons_succ, List.length_cons, List.length_nil, Option.bind_some, Nat.zero_add, Nat.add_zero, if_true, if_false, reduceIte, Nat.reduceEqDiff, Nat.reduceAdd, Nat.reduceMul, Nat.reduceLT, Nat.reduceBEq, decide_true, decide_false, Bool.not_true, Bool.not_false, v3]); (first | refine optR_go ?_ | refine optP_go ?_ | refine boolP_tt ?_ | refine boolP_ff ?_)) | dsimp only)
  exact ⟨bl3, by simpa using hs3, hb3, hE3⟩
end
end
end Go.Proofs.Ytkmmngiodbbjcaa

/-! ## The map of clocks' places -/
namespace Go.Proofs.Ytkmmngiodbbjcaa
open Go.AE
noncomputable section
section
variable {G : Tr AObj} {n0 : Nat} {S S' : Tr AObj} {nx nx' : Nat}
theorem eqKey (w w' : W) : aEq (cf G n0) S 20 70 (key w) (key w') = some (decide (w = w')) := by
  obtain ⟨a, x⟩ := w
  obtain ⟨b, y⟩ := w'
  have e : aEq (cf G n0) S 20 70 (.agg [.int .i64 a, .bool x]) (.agg [.int .i64 b, .bool y]) = (match some (intEq a b) with
      | some true => (match some (boolEq x y) with | some true => some true | some false => some false | none => none)
      | some false => some false
      | none => none) := by kernel_rfl
  unfold key
  rw [e, intEq_eq]
  by_cases h : a = b
  · subst h
    cases x <;> cases y <;> simp [boolEq]
  · simp [h]
theorem okKey (w : W) : aKeyOk (cf G n0) 20 70 (key w) = true := by
  obtain ⟨a, x⟩ := w
  unfold key
  kernel_rfl
theorem sameKey (w : W) : keySame 20 (key w) (key w) = true := by
  obtain ⟨a, x⟩ := w
  have e : keySame 20 (.agg [.int .i64 a, .bool x]) (.agg [.int .i64 a, .bool x]) = ((true && intEq a a) && (boolEq x x && true)) := by kernel_rfl
  unfold key
  rw [e, intEq_eq]
  cases x <;> simp [boolEq]
theorem zero3 : zeroOf (cf G n0) 3 = some (.int .i64 0) := by kernel_rfl
def ent (x : W × Int × Nat) : AV × AV × Nat := (key x.1, .int .i64 x.2.1, x.2.2)
def fk : List (W × Int × Nat) → W → Nat → Option (Nat × Int)
  | [], _, _ => none
  | x :: l, w, i => if x.1 = w then some (i, x.2.1) else fk l w (i + 1)
theorem findKey_fk (w : W) : ∀ (M : List (W × Int × Nat)) (i : Nat), findKey (cf G n0) S 70 (key w) (M.map ent) i = some ((fk M w i).map fun p => (p.1, .int .i64 p.2)) := by
  intro M
  induction M with
  | nil => intro i; rfl
  | cons x M ih =>
    intro i
    simp only [List.map_cons, ent, findKey, eqKey, fk]
    by_cases h : w = x.1
    · simp [h]
    · have h' : ¬ x.1 = w := fun e => h e.symm
      simp only [h, h', decide_false, if_false]
      exact ih (i + 1)
theorem fk_shift (w : W) : ∀ (M : List (W × Int × Nat)) (i : Nat), fk M w i = (fk M w 0).map fun p => (p.1 + i, p.2) := by
  intro M
  induction M with
  | nil => intro i; rfl
  | cons x M ih =>
    intro i
    simp only [fk]
    split
    · simp
    · rw [ih (i + 1), ih 1]
      cases fk M w 0 <;> simp; omega
theorem fk_at (w : W) : ∀ (M : List (W × Int × Nat)) (j : Nat) (k : Int), fk M w 0 = some (j, k) → ∃ born, M[j]? = some (w, k, born) := by
  intro M
  induction M with
  | nil => intro j k h; cases h
  | cons x M ih =>
    intro j k h
    simp only [fk] at h
    split at h
    · rename_i e
      simp at h
      obtain ⟨rfl, rfl⟩ := h
      exact ⟨x.2.2, by simp [← e]⟩
    · rw [fk_shift] at h
      cases hq : fk M w 0 with
      | none => rw [hq] at h; cases h
      | some p =>
        rw [hq] at h
        simp at h
        obtain ⟨rfl, rfl⟩ := h
        obtain ⟨b, hb⟩ := ih p.1 p.2 hq
        exact ⟨b, by simpa using hb⟩
def lookM (M : List (W × Int × Nat)) (w : W) : Option Int := (fk M w 0).map (·.2)
theorem lookM_cons (x : W × Int × Nat) (M : List (W × Int × Nat)) (w : W) : lookM (x :: M) w = if x.1 = w then some x.2.1 else lookM M w := by
  unfold lookM
  simp only [fk]
  split
  · rfl
  · rw [fk_shift]; cases fk M w 0 <;> rfl
theorem lookM_app (w w' : W) (k : Int) (b : Nat) : ∀ M : List (W × Int × Nat), lookM M w = none → lookM (M ++ [(w, k, b)]) w' = if w' = w then some k else lookM M w' := by
  intro M
  induction M with
  | nil =>
    intro _
    rw [List.nil_append, lookM_cons]
    by_cases h : w' = w
    · simp [h]
    · have : ¬ w = w' := fun e => h e.symm
      simp [h, this]
  | cons x M ih =>
    intro h
    rw [lookM_cons] at h
    split at h
    · cases h
    · rename_i hx
      rw [List.cons_append, lookM_cons, lookM_cons, ih h]
      by_cases e : x.1 = w'
      · have : ¬ w' = w := fun q => hx (e.trans q)
        simp [e, this]
      · simp [e]
theorem lookM_set (w w' : W) (k : Int) : ∀ (M : List (W × Int × Nat)) (j : Nat) (k0 : Int) (b : Nat), fk M w 0 = some (j, k0) → lookM (M.set j (w, k, b)) w' = if w' = w then some k else lookM M w' := by
  intro M
  induction M with
  | nil => intro j k0 b h; cases h
  | cons x M ih =>
    intro j k0 b h
    simp only [fk] at h
    split at h
    · rename_i e
      simp at h
      obtain ⟨rfl, rfl⟩ := h
      rw [List.set_cons_zero, lookM_cons, lookM_cons]
      by_cases h : w' = w
      · simp [h]
      · have h1 : ¬ w = w' := fun q => h q.symm
        have h2 : ¬ x.1 = w' := fun q => h (q.symm.trans e)
        simp [h, h1, h2]
    · rename_i e
      rw [fk_shift] at h
      cases hq : fk M w 0 with
      | none => rw [hq] at h; cases h
      | some p =>
        rw [hq] at h
        simp at h
        obtain ⟨rfl, rfl⟩ := h
        rw [List.set_cons_succ, lookM_cons, lookM_cons, ih p.1 p.2 b hq]
        by_cases h2 : x.1 = w'
        · have : ¬ w' = w := fun q => e (h2.trans q)
          simp [h2, this]
        · simp [h2]
/-- a map in memory, by what it answers -/
def MapAt (C : Cfg) (S : Tr AObj) (r : Nat) (lk : W → Option Int) : Prop := ∃ M clock, hget C S r = some (.map (M.map ent) clock) ∧ ∀ w, lookM M w = lk w
theorem MapAt.keep {C : Cfg} {r : Nat} {lk : W → Option Int} (h : MapAt C S r lk) (k : hget C S' r = hget C S r) : MapAt C S' r lk := by
  obtain ⟨M, clock, h1, h2⟩ := h
  exact ⟨M, clock, by rw [k]; exact h1, h2⟩
theorem look_none {r : Nat} {lk : W → Option Int} (h : MapAt (cf G n0) S r lk) {w : W} (hw : lk w = none) : aLookup (cf G n0) S 73 (.map r) (key w) true = some (.tuple [.int .i64 0, .bool false]) := by
  obtain ⟨M, clock, h1, h2⟩ := h
  have hf : fk M w 0 = none := by
    have := (h2 w).trans hw
    unfold lookM at this
    simpa using this
  simp only [aLookup, und73, h1, okKey, cnd_true, findKey_fk, hf, Option.map_none, zero3]
theorem look_some {r : Nat} {lk : W → Option Int} (h : MapAt (cf G n0) S r lk) {w : W} {k : Int} (hw : lk w = some k) (ok : Bool) :
    aLookup (cf G n0) S 73 (.map r) (key w) ok = some (cnd ok (.tuple [.int .i64 k, .bool true]) (.int .i64 k)) := by
  obtain ⟨M, clock, h1, h2⟩ := h
  have hf : ∃ j, fk M w 0 = some (j, k) := by
    have := (h2 w).trans hw
    unfold lookM at this
    cases hq : fk M w 0 with
    | none => rw [hq] at this; cases this
    | some p => rw [hq] at this; simp at this; exact ⟨p.1, by rw [← this]⟩
  obtain ⟨j, hf⟩ := hf
  simp only [aLookup, und73, h1, okKey, cnd_true, findKey_fk, hf, Option.map_some]
theorem map_set {r : Nat} {lk : W → Option Int} (hr : (cf G n0).n0 ≤ r) (h : MapAt (cf G n0) S r lk) (w : W) (k : Int) :
    ∃ S', aMapSet (cf G n0) S nx 73 (.map r) (key w) (.int .i64 k) = some (.vals AE.undef S' nx) ∧ MapAt (cf G n0) S' r (fun x => if x = w then some k else lk x) ∧ ∀ y, y ≠ r → hget (cf G n0) S' y = hget (cf G n0) S y := by
  obtain ⟨M, clock, h1, h2⟩ := h
  have hd : dyn (cf G n0) r = true := ble_of hr
  cases hf : fk M w 0 with
  | none =>
    refine ⟨Go.AE.hset (cf G n0) S r (some (.map ((M ++ [(w, k, clock)]).map ent) (clock + 1))), ?_, ⟨M ++ [(w, k, clock)], clock + 1, hget_new hr, fun x => ?_⟩, fun y hy => hget_old hr hy⟩
    · simp only [aMapSet, und73, h1, okKey, cnd_true, findKey_fk, hf, Option.map_none, AE.setObj, hd, cnd_true, forceTr_eq]
      rw [List.map_append]
      rfl
    · rw [lookM_app _ _ _ _ _ (by unfold lookM; rw [hf]; rfl), h2]
  | some p =>
    obtain ⟨j, k0⟩ := p
    obtain ⟨born, hb⟩ := fk_at w M j k0 hf
    have hne : (M.map ent)[j]? = some (key w, .int .i64 k0, born) := by rw [List.getElem?_map, hb]; rfl
    refine ⟨Go.AE.hset (cf G n0) S r (some (.map ((M.set j (w, k, born)).map ent) clock)), ?_, ⟨M.set j (w, k, born), clock, hget_new hr, fun x => ?_⟩, fun y hy => hget_old hr hy⟩
    · simp only [aMapSet, und73, h1, okKey, cnd_true, findKey_fk, hf, Option.map_some, nth_eq, hne, sameKey, AE.setObj, hd, cnd_true, forceTr_eq]
      rw [List.map_set]
      rfl
    · rw [lookM_set w x k M j k0 born hf, h2]
/-! ## tell -/
/-- what is known of the clocks: where they stand, and who is begun -/
structure Inv (vs : List W) (lk : W → Option Int) (L : List Ck) : Prop where
  at' : ∀ w k, lk w = some k → k = -2 ∨ ∃ (i : Nat) (c : Ck), k = (i : Int) ∧ L[i]? = some c ∧ c.on = w.on ∧ c.no = w.no
  all : ∀ (i : Nat) c, L[i]? = some c → lk ⟨c.on, c.no⟩ = some (i : Int)
  par : ∀ (i : Nat) c, L[i]? = some c → (c.on = -1 ∧ c.no = false ∧ c.par = -1) ∨ ∃ (j : Nat) (v : W) (p : Nat) (q : Ck), c.on = (j : Int) ∧ vs[j]? = some v ∧ c.par = (p : Int) ∧ p < i ∧ L[p]? = some q ∧ q.on = v.on ∧ q.no = v.no
/-- a variable's clock is one ahead of it -/
def Desc (vs : List W) : Prop := ∀ (j : Nat) v, vs[j]? = some v → (v.on = -1 ∧ v.no = false) ∨ ∃ i : Nat, v.on = (i : Int) ∧ i < j
/-- what a call of tell does -/
structure Told (vs : List W) (lk : W → Option Int) (L : List Ck) (w : W) (lk' : W → Option Int) (L' : List Ck) (k : Int) : Prop where
  inv : Inv vs lk' L'
  pre : ∃ e, L' = L ++ e ∧ e.length ≤ (w.on + 2).toNat
  here : lk' w = some k ∧ ∃ i : Nat, k = (i : Int)
  begun : ∀ x, lk' x = some (-2) ↔ lk x = some (-2)
  mono : ∀ x k, lk x = some k → k ≠ -2 → lk' x = some k
theorem Told.known {lk : W → Option Int} {L : List Ck} {w : W} {k : Int} {vs : List W} (h : Inv vs lk L) (hw : lk w = some k) (hk : k ≠ -2) : Told vs lk L w lk L k :=
  ⟨h, ⟨[], by simp, by simp⟩, ⟨hw, by
    rcases h.at' w k hw with h | ⟨i, c, h, _⟩
    · exact absurd h hk
    · exact ⟨i, h⟩⟩, fun _ => Iff.rfl, fun _ _ h _ => h⟩
/-- a clock is set at the end -/
theorem Told.add {lk lk1 : W → Option Int} {L L1 : List Ck} {w : W} {par : Int} {vs : List W} (h0 : Inv vs lk L) (hw : lk w = none) (h1 : Inv vs lk1 L1) (hw1 : lk1 w = some (-2)) (hb : ∀ x, x ≠ w → (lk1 x = some (-2) ↔ lk x = some (-2))) (hm : ∀ x k, lk x = some k → k ≠ -2 → lk1 x = some k)
    (he : ∃ e, L1 = L ++ e ∧ e.length + 1 ≤ (w.on + 2).toNat) (hp : (w.on = -1 ∧ w.no = false ∧ par = -1) ∨ ∃ (j : Nat) (v : W) (p : Nat) (q : Ck), w.on = (j : Int) ∧ vs[j]? = some v ∧ par = (p : Int) ∧ L1[p]? = some q ∧ q.on = v.on ∧ q.no = v.no) :
    Told vs lk L w (fun x => if x = w then some (L1.length : Int) else lk1 x) (L1 ++ [⟨w.on, w.no, par⟩]) (L1.length : Int) := by
  have hne : ∀ (i : Nat) c, L1[i]? = some c → (⟨c.on, c.no⟩ : W) ≠ w := by
    intro i c hc e
    have := h1.all i c hc
    rw [e, hw1] at this
    simp at this
  have hlast : ∀ (i : Nat) c, (L1 ++ [(⟨w.on, w.no, par⟩ : Ck)])[i]? = some c → L1[i]? = some c ∨ (i = L1.length ∧ c = ⟨w.on, w.no, par⟩) := by
    intro i c hc
    by_cases hi : i < L1.length
    · rw [List.getElem?_append_left hi] at hc; exact .inl hc
    · rw [List.getElem?_append_right (by omega)] at hc
      have : i - L1.length = 0 := by
        have := (List.getElem?_eq_some_iff.1 hc).1
        simp at this; omega
      rw [this] at hc
      simp at hc
      exact .inr ⟨by omega, hc.symm⟩
  have hkeep : ∀ (i : Nat) c, L1[i]? = some c → (L1 ++ [(⟨w.on, w.no, par⟩ : Ck)])[i]? = some c := by
    intro i c hc
    rw [List.getElem?_append_left (List.getElem?_eq_some_iff.1 hc).1]; exact hc
  refine ⟨⟨fun x k hk => ?_, fun i c hc => ?_, fun i c hc => ?_⟩, ?_, ⟨by simp, L1.length, rfl⟩, fun x => ?_, fun x k hk hk2 => ?_⟩
  · by_cases e : x = w
    · subst e
      simp at hk
      exact .inr ⟨L1.length, ⟨x.on, x.no, par⟩, hk.symm, by simp, rfl, rfl⟩
    · simp only [e, if_false] at hk
      rcases h1.at' x k hk with h | ⟨i, c, a1, a2, a3⟩
      · exact .inl h
      · exact .inr ⟨i, c, a1, hkeep i c a2, a3⟩
  · rcases hlast i c hc with h | ⟨rfl, rfl⟩
    · simp only [hne i c h, if_false]
      exact h1.all i c h
    · simp
  · rcases hlast i c hc with h | ⟨rfl, rfl⟩
    · rcases h1.par i c h with h | ⟨j, v, p, q, a1, a2, a3, a4, a5, a6⟩
      · exact .inl h
      · exact .inr ⟨j, v, p, q, a1, a2, a3, a4, hkeep p q a5, a6⟩
    · rcases hp with h | ⟨j, v, p, q, a1, a2, a3, a4, a5⟩
      · exact .inl h
      · exact .inr ⟨j, v, p, q, a1, a2, a3, (List.getElem?_eq_some_iff.1 a4).1, hkeep p q a4, a5⟩
  · obtain ⟨e, rfl, hl⟩ := he
    exact ⟨e ++ [⟨w.on, w.no, par⟩], by simp, by simpa using hl⟩
  · by_cases e : x = w
    · subst e
      simp only [if_true, hw]
      constructor
      · intro h
        simp at h
      · intro h; cases h
    · simp only [e, if_false]
      exact hb x e
  · have e : x ≠ w := fun e => by rw [e, hw] at hk; cases hk
    simp only [e, if_false]
    exact hm x k hk hk2
theorem Inv.begin {lk : W → Option Int} {L : List Ck} {w : W} {vs : List W} (h : Inv vs lk L) (hw : lk w = none) : Inv vs (fun x => if x = w then some (-2) else lk x) L := by
  refine ⟨fun x k hk => ?_, fun i c hc => ?_, h.par⟩
  · by_cases e : x = w
    · simp only [e, if_true] at hk
      simp at hk
      exact .inl hk.symm
    · simp only [e, if_false] at hk
      exact h.at' x k hk
  · have hl := h.all i c hc
    have e : (⟨c.on, c.no⟩ : W) ≠ w := fun e => by rw [e, hw] at hl; cases hl
    simp only [e, if_false]
    exact hl
end
end
end Go.Proofs.Ytkmmngiodbbjcaa
