/- The law. -/
import Derived.Test.YtdnenindpapniaaDoorD11
set_option linter.unusedVariables false
set_option linter.unusedSimpArgs false
set_option maxRecDepth 20000
set_option maxHeartbeats 4000000
namespace Go.Proofs.YtdnenindpapniaaDoor
open Go.RowKit Sym
attribute [local irreducible] awp aops aopsQ gop gopQ gopO gopOQ gopV gopT awpN awpT awpTs ACall after
theorem law_CertOk (c : Cert) : Ct Tryd.prog 9 [c.v] (.d true (.bool true)) := by
  have szc := szCert_ct c (1048576) (by omega) (by omega)
  by_cases hc : (c.cnt : Int) ≤ 1048576
  · have hlc : lft c.cnt (1048576) = 1048576 - (c.cnt : Int) := if_pos hc
    rw [hlc] at szc
    have hdc : decide (1048576 - (c.cnt : Int) < 0) = false := decide_eq_false (by omega)
    have hs := certOk1_ct c (by omega)
    have hi := certOk2_ct c (by omega)
    generalize certB c = bb at *
    have htc := toCert_ct c (by omega)
    have hec := eqCert_ct c c
    rw [eqC_refl] at hec
    refine ok9.ct mo Tryd.func9 (by simp) rfl fun hok => ?_
    unfold ac9
    simp only [Cert.v_eq] at *
    repeat' first | assumption | first | refine s_opt1 ?_ | refine s_opt0 ?_ | refine s_optq1 ?_ | refine s_optq0 ?_ | (refine s_norm ?_; try simp only [wsN, wsI, rmv, rng, X.ev, lkp, peel, cond_true, cond_false, nbeq, Nat.reduceBEq, Nat.reduceSub, Nat.reduceAdd, Nat.zero_add, Nat.sub_zero, Nat.sub_self, List.length_cons, List.length_nil, List.length_append, List.cons_append, List.nil_append, List.append_nil]) | (refine s_take fun K hK => ?_) | (refine s_cons (fun K hK => ?_) ?_) | exact s_tnil | refine s_br ?_ | refine s_done ?_ | refine s_seq fun K hK => ?_ | refine s_region ?_ | refine s_draw ?_ | refine s_tree ?_ | refine s_op fun K hK => ?_ | refine s_opq fun K hK => ?_ | refine s_ops ?_ | refine s_endq ?_ | simp only [go_sem, Int.reduceToNat, Int.reduceEq, Nat.reduceAdd, Nat.reduceBEq, Nat.reduceLeDiff, Nat.reduceLT, Int.reduceLT, Int.reduceLE, Int.reduceNeg, reduceCtorEq, Bool.not_true, bne_self_eq_false, hdc] | (first | (refine hK _ ?_; clear hK K) | (clear hK K; refine hK _ ?_; clear hK K) | (clear hK K; clear hK K; refine hK _ ?_; clear hK K)) | refine And.intro ?_ ?_ | refine s_call szc ?_ | refine s_call htc ?_ | refine s_call hec ?_ | refine s_callq hec rfl ?_ | refine s_call hs ?_ | refine s_call hi ?_
    all_goals first | (simp [go_sem, tids, A.tid, A.tid.go, List.cons_append, frzT, St.frz, A.sub, A.subL, O.sub, subT, subH, frzY, frzZ, Post, aret, evRs, RV.ev, tupA, A.Le, A.LeL, lkp, St.frzs, St.frz, A.ids, A.idsL, cond_true, cond_false, nbeq, nble, decide_true, decide_false, Nat.reduceLeDiff, Nat.reduceBEq, Nat.reduceAdd, beq_self_eq_true, true_and, and_true, true_implies, List.append_nil, List.nil_append, List.getElem?_cons_zero, List.getElem?_cons_succ, List.length_cons, List.length_nil, List.drop_zero, List.take_succ_cons, List.take_zero, and_self]; done) | trivial | (simp [A.LeL]; done) | omega
  · have hlc : lft c.cnt (1048576) = -1 := if_neg hc
    rw [hlc] at szc
    refine ok9.ct mo Tryd.func9 (by simp) rfl fun hok => ?_
    unfold ac9
    simp only [Cert.v_eq] at *
    repeat' first | assumption | first | refine s_opt1 ?_ | refine s_opt0 ?_ | refine s_optq1 ?_ | refine s_optq0 ?_ | (refine s_norm ?_; try simp only [wsN, wsI, rmv, rng, X.ev, lkp, peel, cond_true, cond_false, nbeq, Nat.reduceBEq, Nat.reduceSub, Nat.reduceAdd, Nat.zero_add, Nat.sub_zero, Nat.sub_self, List.length_cons, List.length_nil, List.length_append, List.cons_append, List.nil_append, List.append_nil]) | (refine s_take fun K hK => ?_) | (refine s_cons (fun K hK => ?_) ?_) | exact s_tnil | refine s_br ?_ | refine s_done ?_ | refine s_seq fun K hK => ?_ | refine s_region ?_ | refine s_draw ?_ | refine s_tree ?_ | refine s_op fun K hK => ?_ | refine s_opq fun K hK => ?_ | refine s_ops ?_ | refine s_endq ?_ | simp only [go_sem, Int.reduceToNat, Int.reduceEq, Nat.reduceAdd, Nat.reduceBEq, Nat.reduceLeDiff, Nat.reduceLT, Int.reduceLT, Int.reduceLE, Int.reduceNeg, reduceCtorEq, show decide ((-1 : Int) < 0) = true from rfl] | (first | (refine hK _ ?_; clear hK K) | (clear hK K; refine hK _ ?_; clear hK K) | (clear hK K; clear hK K; refine hK _ ?_; clear hK K)) | refine And.intro ?_ ?_ | refine s_call szc ?_
    all_goals first | (simp [go_sem, tids, A.tid, A.tid.go, List.cons_append, frzT, St.frz, A.sub, A.subL, O.sub, subT, subH, frzY, frzZ, Post, aret, evRs, RV.ev, tupA, A.Le, A.LeL, lkp, St.frzs, St.frz, A.ids, A.idsL, cond_true, cond_false, nbeq, nble, decide_true, decide_false, Nat.reduceLeDiff, Nat.reduceBEq, Nat.reduceAdd, beq_self_eq_true, true_and, and_true, true_implies, List.append_nil, List.nil_append, List.getElem?_cons_zero, List.getElem?_cons_succ, List.length_cons, List.length_nil, List.drop_zero, List.take_succ_cons, List.take_zero, and_self]; done) | trivial
end Go.Proofs.YtdnenindpapniaaDoor
