/- Greetings. -/
import Derived.Test.YtdnenindpapniaaDoorF9
set_option linter.unusedVariables false
set_option maxRecDepth 20000
set_option maxHeartbeats 4000000
set_option linter.unusedSimpArgs false
namespace Go.Proofs.YtdnenindpapniaaDoor
open Go.RowKit Sym

theorem rightOr_le {t : Term} {n : Nat} (h : t.cnt ≤ n) : (rightOr t).cnt ≤ n := Nat.le_trans (rightOr_cnt t) h
theorem cnt1 (op n : Int) (a : Term) : (Term.mk op n ⟨#[]⟩ [a]).cnt = 1 + a.cnt := by simp [Term.cnt, cnts, sz0]
theorem cnt2 (op n : Int) (a b : Term) : (Term.mk op n ⟨#[]⟩ [a, b]).cnt = 2 + (a.cnt + b.cnt) := by simp [Term.cnt, cnts, sz0]
def pairT (a b : Term) : Term := rightOr (.mk 3 0 ⟨#[]⟩ [a, b])
def hashT (a : Term) : Term := rightOr (.mk 6 0 ⟨#[]⟩ [a])
def pubT (a : Term) : Term := rightOr (.mk 4 0 ⟨#[]⟩ [a])
theorem pairT_cnt (a b : Term) : (pairT a b).cnt ≤ 2 + (a.cnt + b.cnt) := rightOr_le (by rw [cnt2]; exact Nat.le_refl _)
theorem hashT_cnt (a : Term) : (hashT a).cnt ≤ 1 + a.cnt := rightOr_le (by rw [cnt1]; exact Nat.le_refl _)
theorem pubT_cnt (a : Term) : (pubT a).cnt ≤ 1 + a.cnt := rightOr_le (by rw [cnt1]; exact Nat.le_refl _)
def textT (s : ByteArray) : Term := .mk 2 0 s []
theorem textT_cnt (s : ByteArray) : (textT s).cnt = s.size := by simp [textT, Term.cnt, cnts]

theorem both1_ct (a b : Term) (h : a.cnt + b.cnt ≤ 2097152) : Ct Tryd.prog 101 [a.v, b.v] (hashT (pairT a b)).v := by
  have hp := pairT_cnt a b
  have h1 := pair1_ct a b (by omega) (by omega)
  have h2 := hash1_ct (pairT a b) (by omega)
  change Ct _ _ _ (pairT a b).v at h1
  change Ct _ _ _ (hashT (pairT a b)).v at h2
  generalize hashT (pairT a b) = g at *
  generalize pairT a b = p at *
  refine ok101.ct mo Tryd.func101 (by simp) rfl fun hok => ?_
  unfold ac101
  simp only [Term.v_eq] at *
  repeat' first | first | simp only [go_sem, Int.reduceToNat, Int.reduceEq, Nat.reduceAdd, Nat.reduceBEq, Nat.reduceLeDiff, Nat.reduceLT, Int.reduceLT, Int.reduceLE, Int.reduceNeg, reduceCtorEq] | refine s_seq fun K hK => ?_ | refine s_region ?_ | refine s_tree ?_ | refine s_draw ?_ | (first | (refine hK _ ?_; clear hK K) | (clear hK K; refine hK _ ?_; clear hK K) | (clear hK K; clear hK K; refine hK _ ?_; clear hK K)) | refine And.intro ?_ ?_ | refine s_call h1 ?_ | refine s_call h2 ?_
  all_goals first | (simp [go_sem, tids, A.tid, A.tid.go, List.cons_append, frzT, St.frz, A.sub, A.subL, O.sub, subT, subH, frzY, frzZ, Post, aret, evRs, RV.ev, tupA, A.Le, A.LeL, lkp, St.frzs, St.frz, A.ids, A.idsL, cond_true, cond_false, nbeq, nble, decide_true, decide_false, Nat.reduceLeDiff, Nat.reduceBEq, Nat.reduceAdd, beq_self_eq_true, true_and, and_true, true_implies, List.append_nil, List.nil_append, List.getElem?_cons_zero, List.getElem?_cons_succ, List.length_cons, List.length_nil, List.drop_zero, List.take_succ_cons, List.take_zero, and_self]; done) | (simp [A.LeL]; done)
theorem both2_ct (a b : Term) (h : a.cnt + b.cnt ≤ 2097152) : Ct Tryd.prog 105 [a.v, b.v] (hashT (pairT a b)).w := by
  have hp := pairT_cnt a b
  have h1 := pair2_ct a b (by omega) (by omega)
  have h2 := hash2_ct (pairT a b) (by omega)
  change Ct _ _ _ (pairT a b).w at h1
  change Ct _ _ _ (hashT (pairT a b)).w at h2
  generalize hashT (pairT a b) = g at *
  generalize pairT a b = p at *
  refine ok105.ct mo Tryd.func105 (by simp) rfl fun hok => ?_
  unfold ac105
  simp only [Term.v_eq] at *
  repeat' first | first | simp only [go_sem, Int.reduceToNat, Int.reduceEq, Nat.reduceAdd, Nat.reduceBEq, Nat.reduceLeDiff, Nat.reduceLT, Int.reduceLT, Int.reduceLE, Int.reduceNeg, reduceCtorEq] | refine s_seq fun K hK => ?_ | refine s_region ?_ | refine s_tree ?_ | refine s_draw ?_ | (first | (refine hK _ ?_; clear hK K) | (clear hK K; refine hK _ ?_; clear hK K) | (clear hK K; clear hK K; refine hK _ ?_; clear hK K)) | refine And.intro ?_ ?_ | refine s_call h1 ?_ | refine s_call h2 ?_
  all_goals first | (simp [go_sem, tids, A.tid, A.tid.go, List.cons_append, frzT, St.frz, A.sub, A.subL, O.sub, subT, subH, frzY, frzZ, Post, aret, evRs, RV.ev, tupA, A.Le, A.LeL, lkp, St.frzs, St.frz, A.ids, A.idsL, cond_true, cond_false, nbeq, nble, decide_true, decide_false, Nat.reduceLeDiff, Nat.reduceBEq, Nat.reduceAdd, beq_self_eq_true, true_and, and_true, true_implies, List.append_nil, List.nil_append, List.getElem?_cons_zero, List.getElem?_cons_succ, List.length_cons, List.length_nil, List.drop_zero, List.take_succ_cons, List.take_zero, and_self]; done) | (simp [A.LeL]; done)
theorem text1_ct (s : ByteArray) : Ct Tryd.prog 96 [.d false (.str s)] (textT s).v := by
  refine ok96.ct mo Tryd.func96 (by simp) rfl fun hok => ?_
  unfold ac96
  repeat first | refine s_seq fun K hK => ?_ | (refine s_region ?_; simp only [go_sem, Int.reduceToNat, Int.reduceEq, Nat.reduceAdd, Nat.reduceBEq, Nat.reduceLeDiff, Nat.reduceLT, Int.reduceLT, Int.reduceLE, Int.reduceNeg, reduceCtorEq]) | (refine s_tree ?_; simp only [go_sem, Int.reduceToNat, Int.reduceEq, Nat.reduceAdd, Nat.reduceBEq, Nat.reduceLeDiff, Nat.reduceLT, Int.reduceLT, Int.reduceLE, Int.reduceNeg, reduceCtorEq]) | (refine s_draw ?_; simp only [go_sem, Int.reduceToNat, Int.reduceEq, Nat.reduceAdd, Nat.reduceBEq, Nat.reduceLeDiff, Nat.reduceLT, Int.reduceLT, Int.reduceLE, Int.reduceNeg, reduceCtorEq]) | (first | (refine hK _ ?_; clear hK K) | (clear hK K; refine hK _ ?_; clear hK K) | (clear hK K; clear hK K; refine hK _ ?_; clear hK K)) | simp only [Bool.not_true, Bool.not_false, Bool.false_eq_true, Bool.true_eq_false, reduceCtorEq, false_implies, true_implies, true_and, and_true, X.ev, lkp, cond_true, cond_false, nbeq, beq_self_eq_true, Nat.reduceBEq, awp_skip, awp_ret, awp_exit, awp_block, awp_cond, thenK_norm, thenK_ret, thenK_exit, blockK_norm, blockK_ret, blockK_exit] | simp only [go_sem, Int.reduceToNat, Int.reduceEq, Nat.reduceAdd, Nat.reduceBEq, Nat.reduceLeDiff, Nat.reduceLT, Int.reduceLT, Int.reduceLE, Int.reduceNeg, reduceCtorEq]
  simp [go_sem, tids, A.tid, A.tid.go, List.cons_append, frzT, St.frz, A.sub, A.subL, O.sub, subT, subH, frzY, frzZ, Post, aret, evRs, RV.ev, tupA, A.Le, A.LeL, lkp, St.frzs, St.frz, A.ids, A.idsL, cond_true, cond_false, nbeq, nble, decide_true, decide_false, Nat.reduceLeDiff, Nat.reduceBEq, Nat.reduceAdd, beq_self_eq_true, true_and, and_true, true_implies, List.append_nil, List.nil_append, List.getElem?_cons_zero, List.getElem?_cons_succ, List.length_cons, List.length_nil, List.drop_zero, List.take_succ_cons, List.take_zero, and_self]
  simp [textT, Term.op, Term.n, Term.s, Term.kids, encs]
theorem text2_ct (s : ByteArray) : Ct Tryd.prog 97 [.d false (.str s)] (textT s).v := by
  refine ok97.ct mo Tryd.func97 (by simp) rfl fun hok => ?_
  unfold ac97
  repeat first | refine s_seq fun K hK => ?_ | (refine s_region ?_; simp only [go_sem, Int.reduceToNat, Int.reduceEq, Nat.reduceAdd, Nat.reduceBEq, Nat.reduceLeDiff, Nat.reduceLT, Int.reduceLT, Int.reduceLE, Int.reduceNeg, reduceCtorEq]) | (refine s_tree ?_; simp only [go_sem, Int.reduceToNat, Int.reduceEq, Nat.reduceAdd, Nat.reduceBEq, Nat.reduceLeDiff, Nat.reduceLT, Int.reduceLT, Int.reduceLE, Int.reduceNeg, reduceCtorEq]) | (refine s_draw ?_; simp only [go_sem, Int.reduceToNat, Int.reduceEq, Nat.reduceAdd, Nat.reduceBEq, Nat.reduceLeDiff, Nat.reduceLT, Int.reduceLT, Int.reduceLE, Int.reduceNeg, reduceCtorEq]) | (first | (refine hK _ ?_; clear hK K) | (clear hK K; refine hK _ ?_; clear hK K) | (clear hK K; clear hK K; refine hK _ ?_; clear hK K)) | simp only [Bool.not_true, Bool.not_false, Bool.false_eq_true, Bool.true_eq_false, reduceCtorEq, false_implies, true_implies, true_and, and_true, X.ev, lkp, cond_true, cond_false, nbeq, beq_self_eq_true, Nat.reduceBEq, awp_skip, awp_ret, awp_exit, awp_block, awp_cond, thenK_norm, thenK_ret, thenK_exit, blockK_norm, blockK_ret, blockK_exit] | simp only [go_sem, Int.reduceToNat, Int.reduceEq, Nat.reduceAdd, Nat.reduceBEq, Nat.reduceLeDiff, Nat.reduceLT, Int.reduceLT, Int.reduceLE, Int.reduceNeg, reduceCtorEq]
  simp [go_sem, tids, A.tid, A.tid.go, List.cons_append, frzT, St.frz, A.sub, A.subL, O.sub, subT, subH, frzY, frzZ, Post, aret, evRs, RV.ev, tupA, A.Le, A.LeL, lkp, St.frzs, St.frz, A.ids, A.idsL, cond_true, cond_false, nbeq, nble, decide_true, decide_false, Nat.reduceLeDiff, Nat.reduceBEq, Nat.reduceAdd, beq_self_eq_true, true_and, and_true, true_implies, List.append_nil, List.nil_append, List.getElem?_cons_zero, List.getElem?_cons_succ, List.length_cons, List.length_nil, List.drop_zero, List.take_succ_cons, List.take_zero, and_self]
  simp [textT, Term.op, Term.n, Term.s, Term.kids, encs]
def helloS : ByteArray := ⟨#[104, 101, 108, 108, 111]⟩
theorem helloS_size : helloS.size = 5 := rfl
def helloT (e : Term) : Term := pairT (textT helloS) (pubT e)
end Go.Proofs.YtdnenindpapniaaDoor
