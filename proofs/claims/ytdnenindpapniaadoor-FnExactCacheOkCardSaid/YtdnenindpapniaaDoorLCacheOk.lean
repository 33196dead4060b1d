/- The law. -/
import Derived.Test.YtdnenindpapniaaDoorD10
set_option linter.unusedVariables false
set_option linter.unusedSimpArgs false
set_option maxRecDepth 20000
set_option maxHeartbeats 4000000
namespace Go.Proofs.YtdnenindpapniaaDoor
open Go.RowKit Sym
attribute [local irreducible] awp aops aopsQ gop gopQ gopO gopOQ gopV gopT awpN awpT awpTs ACall after
theorem law_CacheOk (ps : List Policy) : Ct Tryd.prog 8 [.d false (.sl (encPs ps))] (.d true (.bool true)) := by
  have szps := szPolicyS_ct ps (1048576) (by omega) (by omega)
  by_cases hps : ((ps.length + cntPs ps : Nat) : Int) ≤ 1048576
  · have hlps : lft (ps.length + cntPs ps) (1048576) = 1048576 - ((ps.length + cntPs ps : Nat) : Int) := if_pos hps
    rw [hlps] at szps
    have hdps : decide (1048576 - ((ps.length + cntPs ps : Nat) : Int) < 0) = false := decide_eq_false (by omega)
    have hs := cache1_ct ps (by omega)
    have hi := cache2_ct ps (by omega)
    generalize cacheB ps = bb at *
    have htps := toPolicyS_ct ps (by omega)
    have heps := eqPolicyS_ct ps ps
    rw [eqPs_refl] at heps
    refine ok8.ct mo Tryd.func8 (by simp) rfl fun hok => ?_
    unfold ac8
    repeat' first | assumption | first | refine s_opt1 ?_ | refine s_opt0 ?_ | refine s_optq1 ?_ | refine s_optq0 ?_ | (refine s_norm ?_; try simp only [wsN, wsI, rmv, rng, X.ev, lkp, peel, cond_true, cond_false, nbeq, Nat.reduceBEq, Nat.reduceSub, Nat.reduceAdd, Nat.zero_add, Nat.sub_zero, Nat.sub_self, List.length_cons, List.length_nil, List.length_append, List.cons_append, List.nil_append, List.append_nil]) | (refine s_take fun K hK => ?_) | (refine s_cons (fun K hK => ?_) ?_) | exact s_tnil | refine s_br ?_ | refine s_done ?_ | refine s_seq fun K hK => ?_ | refine s_region ?_ | refine s_draw ?_ | refine s_tree ?_ | refine s_op fun K hK => ?_ | refine s_opq fun K hK => ?_ | refine s_ops ?_ | refine s_endq ?_ | simp only [go_sem, Int.reduceToNat, Int.reduceEq, Nat.reduceAdd, Nat.reduceBEq, Nat.reduceLeDiff, Nat.reduceLT, Int.reduceLT, Int.reduceLE, Int.reduceNeg, reduceCtorEq, Bool.not_true, bne_self_eq_false, hdps] | (first | (refine hK _ ?_; clear hK K) | (clear hK K; refine hK _ ?_; clear hK K) | (clear hK K; clear hK K; refine hK _ ?_; clear hK K)) | refine And.intro ?_ ?_ | refine s_call szps ?_ | refine s_call htps ?_ | refine s_call heps ?_ | refine s_callq heps rfl ?_ | refine s_call hs ?_ | refine s_call hi ?_
    all_goals first | (simp [go_sem, tids, A.tid, A.tid.go, List.cons_append, frzT, St.frz, A.sub, A.subL, O.sub, subT, subH, frzY, frzZ, Post, aret, evRs, RV.ev, tupA, A.Le, A.LeL, lkp, St.frzs, St.frz, A.ids, A.idsL, cond_true, cond_false, nbeq, nble, decide_true, decide_false, Nat.reduceLeDiff, Nat.reduceBEq, Nat.reduceAdd, beq_self_eq_true, true_and, and_true, true_implies, List.append_nil, List.nil_append, List.getElem?_cons_zero, List.getElem?_cons_succ, List.length_cons, List.length_nil, List.drop_zero, List.take_succ_cons, List.take_zero, and_self]; done) | trivial | (simp [A.LeL]; done) | omega
  · have hlps : lft (ps.length + cntPs ps) (1048576) = -1 := if_neg hps
    rw [hlps] at szps
    refine ok8.ct mo Tryd.func8 (by simp) rfl fun hok => ?_
    unfold ac8
    repeat' first | assumption | first | refine s_opt1 ?_ | refine s_opt0 ?_ | refine s_optq1 ?_ | refine s_optq0 ?_ | (refine s_norm ?_; try simp only [wsN, wsI, rmv, rng, X.ev, lkp, peel, cond_true, cond_false, nbeq, Nat.reduceBEq, Nat.reduceSub, Nat.reduceAdd, Nat.zero_add, Nat.sub_zero, Nat.sub_self, List.length_cons, List.length_nil, List.length_append, List.cons_append, List.nil_append, List.append_nil]) | (refine s_take fun K hK => ?_) | (refine s_cons (fun K hK => ?_) ?_) | exact s_tnil | refine s_br ?_ | refine s_done ?_ | refine s_seq fun K hK => ?_ | refine s_region ?_ | refine s_draw ?_ | refine s_tree ?_ | refine s_op fun K hK => ?_ | refine s_opq fun K hK => ?_ | refine s_ops ?_ | refine s_endq ?_ | simp only [go_sem, Int.reduceToNat, Int.reduceEq, Nat.reduceAdd, Nat.reduceBEq, Nat.reduceLeDiff, Nat.reduceLT, Int.reduceLT, Int.reduceLE, Int.reduceNeg, reduceCtorEq, show decide ((-1 : Int) < 0) = true from rfl] | (first | (refine hK _ ?_; clear hK K) | (clear hK K; refine hK _ ?_; clear hK K) | (clear hK K; clear hK K; refine hK _ ?_; clear hK K)) | refine And.intro ?_ ?_ | refine s_call szps ?_
    all_goals first | (simp [go_sem, tids, A.tid, A.tid.go, List.cons_append, frzT, St.frz, A.sub, A.subL, O.sub, subT, subH, frzY, frzZ, Post, aret, evRs, RV.ev, tupA, A.Le, A.LeL, lkp, St.frzs, St.frz, A.ids, A.idsL, cond_true, cond_false, nbeq, nble, decide_true, decide_false, Nat.reduceLeDiff, Nat.reduceBEq, Nat.reduceAdd, beq_self_eq_true, true_and, and_true, true_implies, List.append_nil, List.nil_append, List.getElem?_cons_zero, List.getElem?_cons_succ, List.length_cons, List.length_nil, List.drop_zero, List.take_succ_cons, List.take_zero, and_self]; done) | trivial
end Go.Proofs.YtdnenindpapniaaDoor
