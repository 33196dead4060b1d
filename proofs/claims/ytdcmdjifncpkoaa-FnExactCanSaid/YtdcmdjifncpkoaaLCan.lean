/- The law. -/
import Derived.Test.YtdcmdjifncpkoaaF30
set_option linter.unusedVariables false
set_option linter.unusedSimpArgs false
set_option maxRecDepth 20000
set_option maxHeartbeats 4000000
namespace Go.Proofs.Ytdcmdjifncpkoaa
open Go.RowKit Sym
attribute [local irreducible] awp aops aopsQ gop gopQ gopO gopOQ gopV gopT awpN awpT awpTs ACall after
theorem law_Can (ps : List Term) (t : Term) : Ct Try.prog 12 [.d false (.sl (encs ps)), t.v] (.d true (.bool true)) := by
  by_cases ha : ((ps.length + cnts ps : Nat) : Int) ≤ 1048576
  · have hla : lft (ps.length + cnts ps) (1048576) = 1048576 - ((ps.length + cnts ps : Nat) : Int) := if_pos ha
    have hda : decide (1048576 - ((ps.length + cnts ps : Nat) : Int) < 0) = false := decide_eq_false (by omega)
    have hsa := szTermS_ct ps 1048576 (by omega) (by omega)
    by_cases hb : (t.cnt : Int) ≤ 1048576 - ((ps.length + cnts ps : Nat) : Int)
    · have hlb : lft t.cnt (1048576 - ((ps.length + cnts ps : Nat) : Int)) = 1048576 - ((ps.length + cnts ps : Nat) : Int) - t.cnt := if_pos hb
      have hdb : decide (1048576 - ((ps.length + cnts ps : Nat) : Int) - (t.cnt : Int) < 0) = false := decide_eq_false (by omega)
      have hsb := szTerm_ct t (1048576 - ((ps.length + cnts ps : Nat) : Int)) (by omega) (by omega)
      have hcm : ∀ t, t ∈ ps → t.cnt ≤ 8388608 := fun t ht => by have := cnts_mem ht; omega
      have hs := can1_ct ps t hcm
      have hi := can2_ct ps t hcm
      generalize canT ps t = bb at *
      have hta := toTermS_own ps (by omega) (by omega)
      have htb := toTerm_own t (by omega)
      have hea := eqTermS_ct ps ps
      have heb := eqTerm_ct t t
      rw [eqTs_refl] at hea
      rw [eqT_refl] at heb
      rw [hla] at hsa
      rw [hlb] at hsb
      generalize ((ps.length + cnts ps : Nat) : Int) = q at *
      refine ok12.ct mo Try.func12 (by simp) rfl fun hok => ?_
      unfold ac12
      simp only [Term.v_eq] at *
      repeat' first | assumption | first | refine s_opt1 ?_ | refine s_opt0 ?_ | refine s_optq1 ?_ | refine s_optq0 ?_ | (refine s_norm ?_; try simp only [wsN, wsI, rmv, rng, X.ev, lkp, peel, cond_true, cond_false, nbeq, Nat.reduceBEq, Nat.reduceSub, Nat.reduceAdd, Nat.zero_add, Nat.sub_zero, Nat.sub_self, List.length_cons, List.length_nil, List.length_append, List.cons_append, List.nil_append, List.append_nil]) | (refine s_take fun K hK => ?_) | (refine s_cons (fun K hK => ?_) ?_) | exact s_tnil | refine s_br ?_ | refine s_done ?_ | refine s_seq fun K hK => ?_ | refine s_region ?_ | refine s_draw ?_ | refine s_tree ?_ | refine s_op fun K hK => ?_ | refine s_opq fun K hK => ?_ | refine s_ops ?_ | refine s_endq ?_ | simp only [go_sem, Int.reduceToNat, Int.reduceEq, Nat.reduceAdd, Nat.reduceBEq, Nat.reduceLeDiff, Nat.reduceLT, Int.reduceLT, Int.reduceLE, Int.reduceNeg, reduceCtorEq, Bool.not_true, bne_self_eq_false, hda, hdb] | (first | (refine hK _ ?_; clear hK K) | (clear hK K; refine hK _ ?_; clear hK K) | (clear hK K; clear hK K; refine hK _ ?_; clear hK K)) | refine And.intro ?_ ?_ | refine s_call hsa ?_ | refine s_call hsb ?_ | refine s_call hta ?_ | refine s_call htb ?_ | refine s_call hs ?_ | refine s_call hi ?_ | refine s_call hea ?_ | refine s_call heb ?_
      all_goals first | (simp [go_sem, tids, A.tid, A.tid.go, List.cons_append, frzT, St.frz, A.sub, A.subL, O.sub, subT, subH, frzY, frzZ, Post, aret, evRs, RV.ev, tupA, A.Le, A.LeL, lkp, St.frzs, St.frz, A.ids, A.idsL, cond_true, cond_false, nbeq, nble, decide_true, decide_false, Nat.reduceLeDiff, Nat.reduceBEq, Nat.reduceAdd, beq_self_eq_true, true_and, and_true, true_implies, List.append_nil, List.nil_append, List.getElem?_cons_zero, List.getElem?_cons_succ, List.length_cons, List.length_nil, List.drop_zero, List.take_succ_cons, List.take_zero, and_self]; done) | trivial | (simp [A.LeL]; done) | skip
    · have hlb : lft t.cnt (1048576 - ((ps.length + cnts ps : Nat) : Int)) = -1 := if_neg hb
      have hsb := szTerm_ct t (1048576 - ((ps.length + cnts ps : Nat) : Int)) (by omega) (by omega)
      rw [hla] at hsa
      rw [hlb] at hsb
      generalize ((ps.length + cnts ps : Nat) : Int) = q at *
      refine ok12.ct mo Try.func12 (by simp) rfl fun hok => ?_
      unfold ac12
      simp only [Term.v_eq] at *
      repeat' first | assumption | first | refine s_opt1 ?_ | refine s_opt0 ?_ | refine s_optq1 ?_ | refine s_optq0 ?_ | (refine s_norm ?_; try simp only [wsN, wsI, rmv, rng, X.ev, lkp, peel, cond_true, cond_false, nbeq, Nat.reduceBEq, Nat.reduceSub, Nat.reduceAdd, Nat.zero_add, Nat.sub_zero, Nat.sub_self, List.length_cons, List.length_nil, List.length_append, List.cons_append, List.nil_append, List.append_nil]) | (refine s_take fun K hK => ?_) | (refine s_cons (fun K hK => ?_) ?_) | exact s_tnil | refine s_br ?_ | refine s_done ?_ | refine s_seq fun K hK => ?_ | refine s_region ?_ | refine s_draw ?_ | refine s_tree ?_ | refine s_op fun K hK => ?_ | refine s_opq fun K hK => ?_ | refine s_ops ?_ | refine s_endq ?_ | simp only [go_sem, Int.reduceToNat, Int.reduceEq, Nat.reduceAdd, Nat.reduceBEq, Nat.reduceLeDiff, Nat.reduceLT, Int.reduceLT, Int.reduceLE, Int.reduceNeg, reduceCtorEq, hda, show decide ((-1 : Int) < 0) = true from rfl] | (first | (refine hK _ ?_; clear hK K) | (clear hK K; refine hK _ ?_; clear hK K) | (clear hK K; clear hK K; refine hK _ ?_; clear hK K)) | refine And.intro ?_ ?_ | refine s_call hsa ?_ | refine s_call hsb ?_
      all_goals first | (simp [go_sem, tids, A.tid, A.tid.go, List.cons_append, frzT, St.frz, A.sub, A.subL, O.sub, subT, subH, frzY, frzZ, Post, aret, evRs, RV.ev, tupA, A.Le, A.LeL, lkp, St.frzs, St.frz, A.ids, A.idsL, cond_true, cond_false, nbeq, nble, decide_true, decide_false, Nat.reduceLeDiff, Nat.reduceBEq, Nat.reduceAdd, beq_self_eq_true, true_and, and_true, true_implies, List.append_nil, List.nil_append, List.getElem?_cons_zero, List.getElem?_cons_succ, List.length_cons, List.length_nil, List.drop_zero, List.take_succ_cons, List.take_zero, and_self]; done) | trivial
  · have hla : lft (ps.length + cnts ps) (1048576) = -1 := if_neg ha
    have hsa := szTermS_ct ps 1048576 (by omega) (by omega)
    rw [hla] at hsa
    refine ok12.ct mo Try.func12 (by simp) rfl fun hok => ?_
    unfold ac12
    simp only [Term.v_eq] at *
    repeat' first | assumption | first | refine s_opt1 ?_ | refine s_opt0 ?_ | refine s_optq1 ?_ | refine s_optq0 ?_ | (refine s_norm ?_; try simp only [wsN, wsI, rmv, rng, X.ev, lkp, peel, cond_true, cond_false, nbeq, Nat.reduceBEq, Nat.reduceSub, Nat.reduceAdd, Nat.zero_add, Nat.sub_zero, Nat.sub_self, List.length_cons, List.length_nil, List.length_append, List.cons_append, List.nil_append, List.append_nil]) | (refine s_take fun K hK => ?_) | (refine s_cons (fun K hK => ?_) ?_) | exact s_tnil | refine s_br ?_ | refine s_done ?_ | refine s_seq fun K hK => ?_ | refine s_region ?_ | refine s_draw ?_ | refine s_tree ?_ | refine s_op fun K hK => ?_ | refine s_opq fun K hK => ?_ | refine s_ops ?_ | refine s_endq ?_ | simp only [go_sem, Int.reduceToNat, Int.reduceEq, Nat.reduceAdd, Nat.reduceBEq, Nat.reduceLeDiff, Nat.reduceLT, Int.reduceLT, Int.reduceLE, Int.reduceNeg, reduceCtorEq, show decide ((-1 : Int) < 0) = true from rfl] | (first | (refine hK _ ?_; clear hK K) | (clear hK K; refine hK _ ?_; clear hK K) | (clear hK K; clear hK K; refine hK _ ?_; clear hK K)) | refine And.intro ?_ ?_ | refine s_call hsa ?_
    all_goals first | (simp [go_sem, tids, A.tid, A.tid.go, List.cons_append, frzT, St.frz, A.sub, A.subL, O.sub, subT, subH, frzY, frzZ, Post, aret, evRs, RV.ev, tupA, A.Le, A.LeL, lkp, St.frzs, St.frz, A.ids, A.idsL, cond_true, cond_false, nbeq, nble, decide_true, decide_false, Nat.reduceLeDiff, Nat.reduceBEq, Nat.reduceAdd, beq_self_eq_true, true_and, and_true, true_implies, List.append_nil, List.nil_append, List.getElem?_cons_zero, List.getElem?_cons_succ, List.length_cons, List.length_nil, List.drop_zero, List.take_succ_cons, List.take_zero, and_self]; done) | trivial
end Go.Proofs.Ytdcmdjifncpkoaa
