/- The law. -/
import Derived.Test.YtdcmdjifncpkoaaF14
set_option linter.unusedVariables false
set_option linter.unusedSimpArgs false
set_option maxRecDepth 20000
set_option maxHeartbeats 4000000
namespace Go.Proofs.Ytdcmdjifncpkoaa
open Go.RowKit Sym
attribute [local irreducible] awp aops aopsQ gop gopQ gopV gopT awpN awpT awpTs ACall after
theorem law_Agree (a : Term) (b : Term) : Ct Try.prog 11 [a.v, b.v] (.d true (.bool true)) := by
  by_cases ha : (a.cnt : Int) ≤ 1048576
  · have hla : lft a.cnt (1048576) = 1048576 - a.cnt := if_pos ha
    have hda : decide (1048576 - (a.cnt : Int) < 0) = false := decide_eq_false (by omega)
    by_cases hb : (b.cnt : Int) ≤ 1048576 - (a.cnt : Int)
    · have hlb : lft b.cnt (1048576 - (a.cnt : Int)) = 1048576 - (a.cnt : Int) - b.cnt := if_pos hb
      have hdb : decide (1048576 - (a.cnt : Int) - (b.cnt : Int) < 0) = false := decide_eq_false (by omega)
      have hs := agree1_ct a b (by omega) (by omega)
      have hi := agree2_ct a b (by omega) (by omega)
      simp only [optV, optW] at hs hi
      have hg : nodsL ((agreeT a b).getD noT).kids ≤ 4194304 := by have := agreeT_cnt a b; have := nods_le ((agreeT a b).getD noT); rw [Term.nods_eq] at this; omega
      generalize (agreeT a b).getD noT = g at *
      generalize (agreeT a b).isSome = bb at *
      have hna : nodsL a.kids ≤ 1048577 := by have := nods_le a; rw [Term.nods_eq] at this; omega
      have hta := toTerm_own a (by omega)
      have hnb : nodsL b.kids ≤ 1048577 := by have := nods_le b; rw [Term.nods_eq] at this; omega
      have htb := toTerm_own b (by omega)
      have hk0 : decide (1 + 3 * (nodsL a.kids : Int) + 3 * (nodsL b.kids : Int) < 0) = false := decide_eq_false (by omega)
      have hk1 : decide (1 + 3 * (nodsL g.kids : Int) < 0) = false := decide_eq_false (by omega)
      refine ok11.ct mo Try.func11 (by simp) rfl fun hok => ?_
      unfold ac11
      simp only [Term.v_eq a, Term.v_eq b] at *
      repeat' first | assumption | first | (refine s_norm ?_; try simp only [wsN, wsI, rmv, rng, X.ev, lkp, peel, cond_true, cond_false, nbeq, Nat.reduceBEq, Nat.reduceSub, Nat.reduceAdd, Nat.zero_add, Nat.sub_zero, Nat.sub_self, List.length_cons, List.length_nil, List.length_append, List.cons_append, List.nil_append, List.append_nil]) | (refine s_take fun K hK => ?_) | (refine s_cons (fun K hK => ?_) ?_) | exact s_tnil | refine s_br ?_ | refine s_done ?_ | refine s_seq fun K hK => ?_ | refine s_region ?_ | refine s_draw ?_ | refine s_tree ?_ | refine s_op fun K hK => ?_ | refine s_opq fun K hK => ?_ | refine s_ops ?_ | refine s_endq ?_ | simp only [go_sem, Int.reduceToNat, Int.reduceEq, Nat.reduceAdd, Nat.reduceBEq, Nat.reduceLeDiff, Nat.reduceLT, Int.reduceLT, Int.reduceLE, Int.reduceNeg, reduceCtorEq, eqT_refl, decide_true, Bool.not_true, bne_self_eq_false, hla, hlb, hda, hdb, hk0, hk1] | (first | (refine hK _ ?_; clear hK K) | (clear hK K; refine hK _ ?_; clear hK K) | (clear hK K; clear hK K; refine hK _ ?_; clear hK K)) | refine And.intro ?_ ?_ | refine s_call (szTerm_ct a (1048576) (by omega) (by omega)) ?_ | refine s_call (szTerm_ct b (1048576 - (a.cnt : Int)) (by omega) (by omega)) ?_ | refine s_call hta ?_ | refine s_call htb ?_ | refine s_call hs ?_ | refine s_call hi ?_ | refine s_call (eqTerm_ct g g) ?_ | refine s_callq (eqTerm_ct g g) rfl ?_ | refine s_call (eqTerm_ct a a) ?_ | refine s_call (eqTerm_ct b b) ?_ | refine s_mark rfl rfl (markTerm_m a _ (by omega) (by omega)) ?_ | refine s_mark rfl rfl (markTerm_m b _ (by omega) (by omega)) ?_ | refine s_mark rfl rfl (markTerm_m g _ (by omega) (by omega)) ?_ | refine s_call (heldTerm_ct g.op g.n g.s g.kids 1 (by decide) (by omega)) ?_
      all_goals first | (simp [go_sem, tids, A.tid, A.tid.go, List.cons_append, frzT, St.frz, A.sub, A.subL, O.sub, subT, subH, frzY, frzZ, Post, aret, evRs, RV.ev, tupA, A.Le, A.LeL, lkp, St.frzs, St.frz, A.ids, A.idsL, cond_true, cond_false, nbeq, nble, decide_true, decide_false, Nat.reduceLeDiff, Nat.reduceBEq, Nat.reduceAdd, beq_self_eq_true, true_and, and_true, true_implies, List.append_nil, List.nil_append, List.getElem?_cons_zero, List.getElem?_cons_succ, List.length_cons, List.length_nil, List.drop_zero, List.take_succ_cons, List.take_zero, and_self]; done) | trivial | (simp [A.LeL]; done) | omega
    · have hlb : lft b.cnt (1048576 - (a.cnt : Int)) = -1 := if_neg hb
      refine ok11.ct mo Try.func11 (by simp) rfl fun hok => ?_
      unfold ac11
      simp only [Term.v_eq a, Term.v_eq b] at *
      repeat' first | assumption | first | (refine s_norm ?_; try simp only [wsN, wsI, rmv, rng, X.ev, lkp, peel, cond_true, cond_false, nbeq, Nat.reduceBEq, Nat.reduceSub, Nat.reduceAdd, Nat.zero_add, Nat.sub_zero, Nat.sub_self, List.length_cons, List.length_nil, List.length_append, List.cons_append, List.nil_append, List.append_nil]) | (refine s_take fun K hK => ?_) | (refine s_cons (fun K hK => ?_) ?_) | exact s_tnil | refine s_br ?_ | refine s_done ?_ | refine s_seq fun K hK => ?_ | refine s_region ?_ | refine s_draw ?_ | refine s_tree ?_ | refine s_op fun K hK => ?_ | refine s_opq fun K hK => ?_ | refine s_ops ?_ | refine s_endq ?_ | simp only [go_sem, Int.reduceToNat, Int.reduceEq, Nat.reduceAdd, Nat.reduceBEq, Nat.reduceLeDiff, Nat.reduceLT, Int.reduceLT, Int.reduceLE, Int.reduceNeg, reduceCtorEq, hla, hlb, hda, show decide ((-1 : Int) < 0) = true from rfl] | (first | (refine hK _ ?_; clear hK K) | (clear hK K; refine hK _ ?_; clear hK K) | (clear hK K; clear hK K; refine hK _ ?_; clear hK K)) | refine And.intro ?_ ?_ | refine s_call (szTerm_ct a (1048576) (by omega) (by omega)) ?_ | refine s_call (szTerm_ct b (1048576 - (a.cnt : Int)) (by omega) (by omega)) ?_
      all_goals first | (simp [go_sem, tids, A.tid, A.tid.go, List.cons_append, frzT, St.frz, A.sub, A.subL, O.sub, subT, subH, frzY, frzZ, Post, aret, evRs, RV.ev, tupA, A.Le, A.LeL, lkp, St.frzs, St.frz, A.ids, A.idsL, cond_true, cond_false, nbeq, nble, decide_true, decide_false, Nat.reduceLeDiff, Nat.reduceBEq, Nat.reduceAdd, beq_self_eq_true, true_and, and_true, true_implies, List.append_nil, List.nil_append, List.getElem?_cons_zero, List.getElem?_cons_succ, List.length_cons, List.length_nil, List.drop_zero, List.take_succ_cons, List.take_zero, and_self]; done) | trivial
  · have hla : lft a.cnt (1048576) = -1 := if_neg ha
    refine ok11.ct mo Try.func11 (by simp) rfl fun hok => ?_
    unfold ac11
    simp only [Term.v_eq a, Term.v_eq b] at *
    repeat' first | assumption | first | (refine s_norm ?_; try simp only [wsN, wsI, rmv, rng, X.ev, lkp, peel, cond_true, cond_false, nbeq, Nat.reduceBEq, Nat.reduceSub, Nat.reduceAdd, Nat.zero_add, Nat.sub_zero, Nat.sub_self, List.length_cons, List.length_nil, List.length_append, List.cons_append, List.nil_append, List.append_nil]) | (refine s_take fun K hK => ?_) | (refine s_cons (fun K hK => ?_) ?_) | exact s_tnil | refine s_br ?_ | refine s_done ?_ | refine s_seq fun K hK => ?_ | refine s_region ?_ | refine s_draw ?_ | refine s_tree ?_ | refine s_op fun K hK => ?_ | refine s_opq fun K hK => ?_ | refine s_ops ?_ | refine s_endq ?_ | simp only [go_sem, Int.reduceToNat, Int.reduceEq, Nat.reduceAdd, Nat.reduceBEq, Nat.reduceLeDiff, Nat.reduceLT, Int.reduceLT, Int.reduceLE, Int.reduceNeg, reduceCtorEq, hla, show decide ((-1 : Int) < 0) = true from rfl] | (first | (refine hK _ ?_; clear hK K) | (clear hK K; refine hK _ ?_; clear hK K) | (clear hK K; clear hK K; refine hK _ ?_; clear hK K)) | refine And.intro ?_ ?_ | refine s_call (szTerm_ct a (1048576) (by omega) (by omega)) ?_
    all_goals first | (simp [go_sem, tids, A.tid, A.tid.go, List.cons_append, frzT, St.frz, A.sub, A.subL, O.sub, subT, subH, frzY, frzZ, Post, aret, evRs, RV.ev, tupA, A.Le, A.LeL, lkp, St.frzs, St.frz, A.ids, A.idsL, cond_true, cond_false, nbeq, nble, decide_true, decide_false, Nat.reduceLeDiff, Nat.reduceBEq, Nat.reduceAdd, beq_self_eq_true, true_and, and_true, true_implies, List.append_nil, List.nil_append, List.getElem?_cons_zero, List.getElem?_cons_succ, List.length_cons, List.length_nil, List.drop_zero, List.take_succ_cons, List.take_zero, and_self]; done) | trivial
end Go.Proofs.Ytdcmdjifncpkoaa
