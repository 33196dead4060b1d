/- The law. -/
import Derived.Test.YtdnenindpapniaaDoorF17
set_option linter.unusedVariables false
set_option linter.unusedSimpArgs false
set_option maxRecDepth 20000
set_option maxHeartbeats 4000000
namespace Go.Proofs.YtdnenindpapniaaDoor
open Go.RowKit Sym
attribute [local irreducible] awp aops aopsQ gop gopQ gopO gopOQ gopV gopT awpN awpT awpTs ACall after
theorem law_Open (a : Term) (n : Int) (b : Term) : Ct Tryd.prog 10 [a.v, .d false (.int .i64 n), b.v] (.d true (.bool true)) := by
  have sza := szTerm_ct a (1048576) (by omega) (by omega)
  by_cases ha : (a.cnt : Int) ≤ 1048576
  · have hla : lft a.cnt (1048576) = 1048576 - (a.cnt : Int) := if_pos ha
    rw [hla] at sza
    have hda : decide (1048576 - (a.cnt : Int) < 0) = false := decide_eq_false (by omega)
    have szb := szTerm_ct b (1048576 - (a.cnt : Int)) (by omega) (by omega)
    by_cases hb : (b.cnt : Int) ≤ 1048576 - (a.cnt : Int)
    · have hlb : lft b.cnt (1048576 - (a.cnt : Int)) = 1048576 - (a.cnt : Int) - (b.cnt : Int) := if_pos hb
      rw [hlb] at szb
      have hdb : decide (1048576 - (a.cnt : Int) - (b.cnt : Int) < 0) = false := decide_eq_false (by omega)
      have hs := open1_ct a n b (by omega)
      have hi := open2_ct a n b (by omega)
      simp only [optV, optW] at hs hi
      have hg : nodsL ((openT a n b).getD noT).kids ≤ 8388608 := by have := openT_cnt a n b; have := nods_le ((openT a n b).getD noT); rw [Term.nods_eq] at this; omega
      generalize (openT a n b).getD noT = g at *
      generalize (openT a n b).isSome = bb at *
      have hta := toTerm_own a (by omega)
      have hea := eqTerm_ct a a
      rw [eqT_refl] at hea
      have htb := toTerm_own b (by omega)
      have heb := eqTerm_ct b b
      rw [eqT_refl] at heb
      have hna : nodsL a.kids ≤ 1048577 := by have := nods_le a; rw [Term.nods_eq] at this; omega
      have hnb : nodsL b.kids ≤ 1048577 := by have := nods_le b; rw [Term.nods_eq] at this; omega
      have hk0 : decide (1 + 3 * (nodsL a.kids : Int) + 3 * (nodsL b.kids : Int) < 0) = false := decide_eq_false (by omega)
      have hk1 : decide (1 + 3 * (nodsL g.kids : Int) < 0) = false := decide_eq_false (by omega)
      have heg := eqTerm_ct g g
      rw [eqT_refl] at heg
      refine ok10.ct mo Tryd.func10 (by simp) rfl fun hok => ?_
      unfold ac10
      simp only [Term.v_eq] at *
      repeat' first | assumption | first | refine s_opt1 ?_ | refine s_opt0 ?_ | refine s_optq1 ?_ | refine s_optq0 ?_ | (refine s_norm ?_; try simp only [wsN, wsI, rmv, rng, X.ev, lkp, peel, cond_true, cond_false, nbeq, Nat.reduceBEq, Nat.reduceSub, Nat.reduceAdd, Nat.zero_add, Nat.sub_zero, Nat.sub_self, List.length_cons, List.length_nil, List.length_append, List.cons_append, List.nil_append, List.append_nil]) | (refine s_take fun K hK => ?_) | (refine s_cons (fun K hK => ?_) ?_) | exact s_tnil | refine s_br ?_ | refine s_done ?_ | refine s_seq fun K hK => ?_ | refine s_region ?_ | refine s_draw ?_ | refine s_tree ?_ | refine s_op fun K hK => ?_ | refine s_opq fun K hK => ?_ | refine s_ops ?_ | refine s_endq ?_ | simp only [go_sem, Int.reduceToNat, Int.reduceEq, Nat.reduceAdd, Nat.reduceBEq, Nat.reduceLeDiff, Nat.reduceLT, Int.reduceLT, Int.reduceLE, Int.reduceNeg, reduceCtorEq, Bool.not_true, bne_self_eq_false, hda, hdb, hk0, hk1] | (first | (refine hK _ ?_; clear hK K) | (clear hK K; refine hK _ ?_; clear hK K) | (clear hK K; clear hK K; refine hK _ ?_; clear hK K)) | refine And.intro ?_ ?_ | refine s_call sza ?_ | refine s_call szb ?_ | refine s_call hta ?_ | refine s_call hea ?_ | refine s_callq hea rfl ?_ | refine s_call htb ?_ | refine s_call heb ?_ | refine s_callq heb rfl ?_ | refine s_call heg ?_ | refine s_callq heg rfl ?_ | refine s_mark rfl rfl (markTerm_m a _ (by omega) (by omega)) ?_ | refine s_mark rfl rfl (markTerm_m b _ (by omega) (by omega)) ?_ | refine s_mark rfl rfl (markTerm_m g _ (by omega) (by omega)) ?_ | refine s_call (heldTerm_ct g.op g.n g.s g.kids 1 (by decide) (by omega)) ?_ | refine s_call hs ?_ | refine s_call hi ?_
      all_goals first | (simp [go_sem, tids, A.tid, A.tid.go, List.cons_append, frzT, St.frz, A.sub, A.subL, O.sub, subT, subH, frzY, frzZ, Post, aret, evRs, RV.ev, tupA, A.Le, A.LeL, lkp, St.frzs, St.frz, A.ids, A.idsL, cond_true, cond_false, nbeq, nble, decide_true, decide_false, Nat.reduceLeDiff, Nat.reduceBEq, Nat.reduceAdd, beq_self_eq_true, true_and, and_true, true_implies, List.append_nil, List.nil_append, List.getElem?_cons_zero, List.getElem?_cons_succ, List.length_cons, List.length_nil, List.drop_zero, List.take_succ_cons, List.take_zero, and_self]; done) | trivial | (simp [A.LeL]; done) | omega
    · have hlb : lft b.cnt (1048576 - (a.cnt : Int)) = -1 := if_neg hb
      rw [hlb] at szb
      refine ok10.ct mo Tryd.func10 (by simp) rfl fun hok => ?_
      unfold ac10
      simp only [Term.v_eq] at *
      repeat' first | assumption | first | refine s_opt1 ?_ | refine s_opt0 ?_ | refine s_optq1 ?_ | refine s_optq0 ?_ | (refine s_norm ?_; try simp only [wsN, wsI, rmv, rng, X.ev, lkp, peel, cond_true, cond_false, nbeq, Nat.reduceBEq, Nat.reduceSub, Nat.reduceAdd, Nat.zero_add, Nat.sub_zero, Nat.sub_self, List.length_cons, List.length_nil, List.length_append, List.cons_append, List.nil_append, List.append_nil]) | (refine s_take fun K hK => ?_) | (refine s_cons (fun K hK => ?_) ?_) | exact s_tnil | refine s_br ?_ | refine s_done ?_ | refine s_seq fun K hK => ?_ | refine s_region ?_ | refine s_draw ?_ | refine s_tree ?_ | refine s_op fun K hK => ?_ | refine s_opq fun K hK => ?_ | refine s_ops ?_ | refine s_endq ?_ | simp only [go_sem, Int.reduceToNat, Int.reduceEq, Nat.reduceAdd, Nat.reduceBEq, Nat.reduceLeDiff, Nat.reduceLT, Int.reduceLT, Int.reduceLE, Int.reduceNeg, reduceCtorEq, hda, show decide ((-1 : Int) < 0) = true from rfl] | (first | (refine hK _ ?_; clear hK K) | (clear hK K; refine hK _ ?_; clear hK K) | (clear hK K; clear hK K; refine hK _ ?_; clear hK K)) | refine And.intro ?_ ?_ | refine s_call sza ?_ | refine s_call szb ?_
      all_goals first | (simp [go_sem, tids, A.tid, A.tid.go, List.cons_append, frzT, St.frz, A.sub, A.subL, O.sub, subT, subH, frzY, frzZ, Post, aret, evRs, RV.ev, tupA, A.Le, A.LeL, lkp, St.frzs, St.frz, A.ids, A.idsL, cond_true, cond_false, nbeq, nble, decide_true, decide_false, Nat.reduceLeDiff, Nat.reduceBEq, Nat.reduceAdd, beq_self_eq_true, true_and, and_true, true_implies, List.append_nil, List.nil_append, List.getElem?_cons_zero, List.getElem?_cons_succ, List.length_cons, List.length_nil, List.drop_zero, List.take_succ_cons, List.take_zero, and_self]; done) | trivial
  · have hla : lft a.cnt (1048576) = -1 := if_neg ha
    rw [hla] at sza
    refine ok10.ct mo Tryd.func10 (by simp) rfl fun hok => ?_
    unfold ac10
    simp only [Term.v_eq] at *
    repeat' first | assumption | first | refine s_opt1 ?_ | refine s_opt0 ?_ | refine s_optq1 ?_ | refine s_optq0 ?_ | (refine s_norm ?_; try simp only [wsN, wsI, rmv, rng, X.ev, lkp, peel, cond_true, cond_false, nbeq, Nat.reduceBEq, Nat.reduceSub, Nat.reduceAdd, Nat.zero_add, Nat.sub_zero, Nat.sub_self, List.length_cons, List.length_nil, List.length_append, List.cons_append, List.nil_append, List.append_nil]) | (refine s_take fun K hK => ?_) | (refine s_cons (fun K hK => ?_) ?_) | exact s_tnil | refine s_br ?_ | refine s_done ?_ | refine s_seq fun K hK => ?_ | refine s_region ?_ | refine s_draw ?_ | refine s_tree ?_ | refine s_op fun K hK => ?_ | refine s_opq fun K hK => ?_ | refine s_ops ?_ | refine s_endq ?_ | simp only [go_sem, Int.reduceToNat, Int.reduceEq, Nat.reduceAdd, Nat.reduceBEq, Nat.reduceLeDiff, Nat.reduceLT, Int.reduceLT, Int.reduceLE, Int.reduceNeg, reduceCtorEq, show decide ((-1 : Int) < 0) = true from rfl] | (first | (refine hK _ ?_; clear hK K) | (clear hK K; refine hK _ ?_; clear hK K) | (clear hK K; clear hK K; refine hK _ ?_; clear hK K)) | refine And.intro ?_ ?_ | refine s_call sza ?_
    all_goals first | (simp [go_sem, tids, A.tid, A.tid.go, List.cons_append, frzT, St.frz, A.sub, A.subL, O.sub, subT, subH, frzY, frzZ, Post, aret, evRs, RV.ev, tupA, A.Le, A.LeL, lkp, St.frzs, St.frz, A.ids, A.idsL, cond_true, cond_false, nbeq, nble, decide_true, decide_false, Nat.reduceLeDiff, Nat.reduceBEq, Nat.reduceAdd, beq_self_eq_true, true_and, and_true, true_implies, List.append_nil, List.nil_append, List.getElem?_cons_zero, List.getElem?_cons_succ, List.length_cons, List.length_nil, List.drop_zero, List.take_succ_cons, List.take_zero, and_self]; done) | trivial
end Go.Proofs.YtdnenindpapniaaDoor
