/- The law. -/
import Derived.Test.YtdnenindpapniaaDoorF21
import Derived.Test.YtdnenindpapniaaDoorF1
set_option linter.unusedVariables false
set_option linter.unusedSimpArgs false
set_option maxRecDepth 20000
set_option maxHeartbeats 4000000
namespace Go.Proofs.YtdnenindpapniaaDoor
open Go.RowKit Sym
attribute [local irreducible] awp aops aopsQ gop gopQ gopO gopOQ gopV gopT awpN awpT awpTs ACall after
theorem law_TermText (t : Term) : Ct Tryd.prog 6 [t.v] (.d true (.bool true)) := by
  have szt := szTerm_ct t (1048576) (by omega) (by omega)
  by_cases ht : (t.cnt : Int) ≤ 1048576
  · have hlt : lft t.cnt (1048576) = 1048576 - (t.cnt : Int) := if_pos ht
    rw [hlt] at szt
    have hdt : decide (1048576 - (t.cnt : Int) < 0) = false := decide_eq_false (by omega)
    have hs := textT1_ct t (by omega)
    have hi := textT2_ct t (by omega)
    generalize textB t = bb at *
    have hbb : beqS bb bb = true := by simp [beqS]
    have htt := toTerm_own t (by omega)
    have het := eqTerm_ct t t
    rw [eqT_refl] at het
    refine ok6.ct mo Tryd.func6 (by simp) rfl fun hok => ?_
    unfold ac6
    simp only [Term.v_eq] at *
    repeat' first | assumption | first | refine s_opt1 ?_ | refine s_opt0 ?_ | refine s_optq1 ?_ | refine s_optq0 ?_ | (refine s_norm ?_; try simp only [wsN, wsI, rmv, rng, X.ev, lkp, peel, cond_true, cond_false, nbeq, Nat.reduceBEq, Nat.reduceSub, Nat.reduceAdd, Nat.zero_add, Nat.sub_zero, Nat.sub_self, List.length_cons, List.length_nil, List.length_append, List.cons_append, List.nil_append, List.append_nil]) | (refine s_take fun K hK => ?_) | (refine s_cons (fun K hK => ?_) ?_) | exact s_tnil | refine s_br ?_ | refine s_done ?_ | refine s_seq fun K hK => ?_ | refine s_region ?_ | refine s_draw ?_ | refine s_tree ?_ | refine s_op fun K hK => ?_ | refine s_opq fun K hK => ?_ | refine s_ops ?_ | refine s_endq ?_ | simp only [go_sem, Int.reduceToNat, Int.reduceEq, Nat.reduceAdd, Nat.reduceBEq, Nat.reduceLeDiff, Nat.reduceLT, Int.reduceLT, Int.reduceLE, Int.reduceNeg, reduceCtorEq, Bool.not_true, bne_self_eq_false, hdt, hbb] | (first | (refine hK _ ?_; clear hK K) | (clear hK K; refine hK _ ?_; clear hK K) | (clear hK K; clear hK K; refine hK _ ?_; clear hK K)) | refine And.intro ?_ ?_ | refine s_call szt ?_ | refine s_call htt ?_ | refine s_call het ?_ | refine s_callq het rfl ?_ | refine s_call hs ?_ | refine s_call hi ?_
    all_goals first | (simp [go_sem, tids, A.tid, A.tid.go, List.cons_append, frzT, St.frz, A.sub, A.subL, O.sub, subT, subH, frzY, frzZ, Post, aret, evRs, RV.ev, tupA, A.Le, A.LeL, lkp, St.frzs, St.frz, A.ids, A.idsL, cond_true, cond_false, nbeq, nble, decide_true, decide_false, Nat.reduceLeDiff, Nat.reduceBEq, Nat.reduceAdd, beq_self_eq_true, true_and, and_true, true_implies, List.append_nil, List.nil_append, List.getElem?_cons_zero, List.getElem?_cons_succ, List.length_cons, List.length_nil, List.drop_zero, List.take_succ_cons, List.take_zero, and_self]; done) | trivial | (simp [A.LeL]; done) | omega
  · have hlt : lft t.cnt (1048576) = -1 := if_neg ht
    rw [hlt] at szt
    refine ok6.ct mo Tryd.func6 (by simp) rfl fun hok => ?_
    unfold ac6
    simp only [Term.v_eq] at *
    repeat' first | assumption | first | refine s_opt1 ?_ | refine s_opt0 ?_ | refine s_optq1 ?_ | refine s_optq0 ?_ | (refine s_norm ?_; try simp only [wsN, wsI, rmv, rng, X.ev, lkp, peel, cond_true, cond_false, nbeq, Nat.reduceBEq, Nat.reduceSub, Nat.reduceAdd, Nat.zero_add, Nat.sub_zero, Nat.sub_self, List.length_cons, List.length_nil, List.length_append, List.cons_append, List.nil_append, List.append_nil]) | (refine s_take fun K hK => ?_) | (refine s_cons (fun K hK => ?_) ?_) | exact s_tnil | refine s_br ?_ | refine s_done ?_ | refine s_seq fun K hK => ?_ | refine s_region ?_ | refine s_draw ?_ | refine s_tree ?_ | refine s_op fun K hK => ?_ | refine s_opq fun K hK => ?_ | refine s_ops ?_ | refine s_endq ?_ | simp only [go_sem, Int.reduceToNat, Int.reduceEq, Nat.reduceAdd, Nat.reduceBEq, Nat.reduceLeDiff, Nat.reduceLT, Int.reduceLT, Int.reduceLE, Int.reduceNeg, reduceCtorEq, show decide ((-1 : Int) < 0) = true from rfl] | (first | (refine hK _ ?_; clear hK K) | (clear hK K; refine hK _ ?_; clear hK K) | (clear hK K; clear hK K; refine hK _ ?_; clear hK K)) | refine And.intro ?_ ?_ | refine s_call szt ?_
    all_goals first | (simp [go_sem, tids, A.tid, A.tid.go, List.cons_append, frzT, St.frz, A.sub, A.subL, O.sub, subT, subH, frzY, frzZ, Post, aret, evRs, RV.ev, tupA, A.Le, A.LeL, lkp, St.frzs, St.frz, A.ids, A.idsL, cond_true, cond_false, nbeq, nble, decide_true, decide_false, Nat.reduceLeDiff, Nat.reduceBEq, Nat.reduceAdd, beq_self_eq_true, true_and, and_true, true_implies, List.append_nil, List.nil_append, List.getElem?_cons_zero, List.getElem?_cons_succ, List.length_cons, List.length_nil, List.drop_zero, List.take_succ_cons, List.take_zero, and_self]; done) | trivial
end Go.Proofs.YtdnenindpapniaaDoor
