/- The law. -/
import Derived.Test.YtdcmdjifncpkoaaF10
set_option linter.unusedVariables false
set_option linter.unusedSimpArgs false
set_option maxRecDepth 20000
set_option maxHeartbeats 4000000
namespace Go.Proofs.Ytdcmdjifncpkoaa
open Go.RowKit Sym
theorem law_Hello (e : Term) : Ct Try.prog 9 [e.v] (.d true (.bool true)) := by
  by_cases he : (e.cnt : Int) ≤ 1048576
  · have hle : lft e.cnt (1048576) = 1048576 - e.cnt := if_pos he
    have hde : decide (1048576 - (e.cnt : Int) < 0) = false := decide_eq_false (by omega)
    have hs := hello1_ct e (by omega)
    have hi := hello2_ct e (by omega)
    have hg : nodsL (helloT e).kids ≤ 4194304 := by have := pairT_cnt (textT helloS) (pubT e); have := pubT_cnt e; have := textT_cnt helloS; have := helloS_size; have := nods_le (helloT e); rw [Term.nods_eq] at this; unfold helloT at *; omega
    generalize (helloT e) = g at *
    have hne : nodsL e.kids ≤ 1048577 := by have := nods_le e; rw [Term.nods_eq] at this; omega
    have hte := toTerm_own e (by omega)
    have hk0 : decide (1 + 3 * (nodsL e.kids : Int) < 0) = false := decide_eq_false (by omega)
    have hk1 : decide (1 + 3 * (nodsL g.kids : Int) < 0) = false := decide_eq_false (by omega)
    refine ok9.ct mo Try.func9 (by simp) rfl fun hok => ?_
    unfold ac9
    simp only [Term.v_eq e] at *
    repeat' first | first | simp only [go_sem, Int.reduceToNat, Int.reduceEq, Nat.reduceAdd, Nat.reduceBEq, Nat.reduceLeDiff, Nat.reduceLT, Int.reduceLT, Int.reduceLE, Int.reduceNeg, reduceCtorEq, eqT_refl, decide_true, Bool.not_true, bne_self_eq_false, hle, hde, hk0, hk1] | refine s_seq fun K hK => ?_ | refine s_region ?_ | refine s_tree ?_ | refine s_draw ?_ | (first | (refine hK _ ?_; clear hK K) | (clear hK K; refine hK _ ?_; clear hK K) | (clear hK K; clear hK K; refine hK _ ?_; clear hK K)) | refine And.intro ?_ ?_ | refine s_call (szTerm_ct e (1048576) (by omega) (by omega)) ?_ | refine s_call hte ?_ | refine s_call hs ?_ | refine s_call hi ?_ | refine s_call (eqTerm_ct g g) ?_ | refine s_callq (eqTerm_ct g g) rfl ?_ | refine s_call (eqTerm_ct e e) ?_ | refine s_mark rfl rfl (markTerm_m e _ (by omega) (by omega)) ?_ | refine s_mark rfl rfl (markTerm_m g _ (by omega) (by omega)) ?_ | refine s_call (heldTerm_ct g.op g.n g.s g.kids 1 (by decide) (by omega)) ?_
    all_goals first | (simp [go_sem, tids, A.tid, A.tid.go, List.cons_append, frzT, St.frz, A.sub, A.subL, O.sub, subT, subH, frzY, frzZ, Post, aret, evRs, RV.ev, tupA, A.Le, A.LeL, lkp, St.frzs, St.frz, A.ids, A.idsL, cond_true, cond_false, nbeq, nble, decide_true, decide_false, Nat.reduceLeDiff, Nat.reduceBEq, Nat.reduceAdd, beq_self_eq_true, true_and, and_true, true_implies, List.append_nil, List.nil_append, List.getElem?_cons_zero, List.getElem?_cons_succ, List.length_cons, List.length_nil, List.drop_zero, List.take_succ_cons, List.take_zero, and_self]; done) | trivial
  · have hle : lft e.cnt (1048576) = -1 := if_neg he
    refine ok9.ct mo Try.func9 (by simp) rfl fun hok => ?_
    unfold ac9
    simp only [Term.v_eq e] at *
    repeat' first | first | simp only [go_sem, Int.reduceToNat, Int.reduceEq, Nat.reduceAdd, Nat.reduceBEq, Nat.reduceLeDiff, Nat.reduceLT, Int.reduceLT, Int.reduceLE, Int.reduceNeg, reduceCtorEq, hle, show decide ((-1 : Int) < 0) = true from rfl] | refine s_seq fun K hK => ?_ | refine s_region ?_ | refine s_tree ?_ | refine s_draw ?_ | (first | (refine hK _ ?_; clear hK K) | (clear hK K; refine hK _ ?_; clear hK K) | (clear hK K; clear hK K; refine hK _ ?_; clear hK K)) | refine And.intro ?_ ?_ | refine s_call (szTerm_ct e (1048576) (by omega) (by omega)) ?_
    all_goals first | (simp [go_sem, tids, A.tid, A.tid.go, List.cons_append, frzT, St.frz, A.sub, A.subL, O.sub, subT, subH, frzY, frzZ, Post, aret, evRs, RV.ev, tupA, A.Le, A.LeL, lkp, St.frzs, St.frz, A.ids, A.idsL, cond_true, cond_false, nbeq, nble, decide_true, decide_false, Nat.reduceLeDiff, Nat.reduceBEq, Nat.reduceAdd, beq_self_eq_true, true_and, and_true, true_implies, List.append_nil, List.nil_append, List.getElem?_cons_zero, List.getElem?_cons_succ, List.length_cons, List.length_nil, List.drop_zero, List.take_succ_cons, List.take_zero, and_self]; done) | trivial
end Go.Proofs.Ytdcmdjifncpkoaa
