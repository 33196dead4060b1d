/- The law. -/
import Derived.Test.YtdnenindpapniaaDoorF20
set_option linter.unusedVariables false
set_option linter.unusedSimpArgs false
set_option maxRecDepth 20000
set_option maxHeartbeats 4000000
namespace Go.Proofs.YtdnenindpapniaaDoor
open Go.RowKit Sym
attribute [local irreducible] awp aops aopsQ gop gopQ gopO gopOQ gopV gopT awpN awpT awpTs ACall after
theorem law_Reply (s : Term) (pub : Term) (key : Term) (cert : Term) : Ct Tryd.prog 14 [s.v, pub.v, key.v, cert.v] (.d true (.bool true)) := by
  have szs := szTerm_ct s (1048576) (by omega) (by omega)
  by_cases hs : (s.cnt : Int) ≤ 1048576
  · have hls : lft s.cnt (1048576) = 1048576 - (s.cnt : Int) := if_pos hs
    rw [hls] at szs
    have hds : decide (1048576 - (s.cnt : Int) < 0) = false := decide_eq_false (by omega)
    have szpub := szTerm_ct pub (1048576 - (s.cnt : Int)) (by omega) (by omega)
    by_cases hpub : (pub.cnt : Int) ≤ 1048576 - (s.cnt : Int)
    · have hlpub : lft pub.cnt (1048576 - (s.cnt : Int)) = 1048576 - (s.cnt : Int) - (pub.cnt : Int) := if_pos hpub
      rw [hlpub] at szpub
      have hdpub : decide (1048576 - (s.cnt : Int) - (pub.cnt : Int) < 0) = false := decide_eq_false (by omega)
      have szkey := szTerm_ct key (1048576 - (s.cnt : Int) - (pub.cnt : Int)) (by omega) (by omega)
      by_cases hkey : (key.cnt : Int) ≤ 1048576 - (s.cnt : Int) - (pub.cnt : Int)
      · have hlkey : lft key.cnt (1048576 - (s.cnt : Int) - (pub.cnt : Int)) = 1048576 - (s.cnt : Int) - (pub.cnt : Int) - (key.cnt : Int) := if_pos hkey
        rw [hlkey] at szkey
        have hdkey : decide (1048576 - (s.cnt : Int) - (pub.cnt : Int) - (key.cnt : Int) < 0) = false := decide_eq_false (by omega)
        have szcert := szTerm_ct cert (1048576 - (s.cnt : Int) - (pub.cnt : Int) - (key.cnt : Int)) (by omega) (by omega)
        by_cases hcert : (cert.cnt : Int) ≤ 1048576 - (s.cnt : Int) - (pub.cnt : Int) - (key.cnt : Int)
        · have hlcert : lft cert.cnt (1048576 - (s.cnt : Int) - (pub.cnt : Int) - (key.cnt : Int)) = 1048576 - (s.cnt : Int) - (pub.cnt : Int) - (key.cnt : Int) - (cert.cnt : Int) := if_pos hcert
          rw [hlcert] at szcert
          have hdcert : decide (1048576 - (s.cnt : Int) - (pub.cnt : Int) - (key.cnt : Int) - (cert.cnt : Int) < 0) = false := decide_eq_false (by omega)
          have hs := reply1_ct s pub key cert (by omega)
          have hi := reply2_ct s pub key cert (by omega)
          simp only [optV, optW] at hs hi
          have hg : nodsL (((replyO s pub key cert)).getD noT).kids ≤ 8388608 := by have := replyO_cnt s pub key cert; have := nods_le (((replyO s pub key cert)).getD noT); rw [Term.nods_eq] at this; omega
          generalize ((replyO s pub key cert)).getD noT = g at *
          generalize ((replyO s pub key cert)).isSome = bb at *
          have hts := toTerm_own s (by omega)
          have hes := eqTerm_ct s s
          rw [eqT_refl] at hes
          have hvs := Term.w_v hts
          have htpub := toTerm_own pub (by omega)
          have hepub := eqTerm_ct pub pub
          rw [eqT_refl] at hepub
          have hvpub := Term.w_v htpub
          have htkey := toTerm_own key (by omega)
          have hekey := eqTerm_ct key key
          rw [eqT_refl] at hekey
          have hvkey := Term.w_v htkey
          have htcert := toTerm_own cert (by omega)
          have hecert := eqTerm_ct cert cert
          rw [eqT_refl] at hecert
          have hvcert := Term.w_v htcert
          have hns : nodsL s.kids ≤ 1048577 := by have := nods_le s; rw [Term.nods_eq] at this; omega
          have hnpub : nodsL pub.kids ≤ 1048577 := by have := nods_le pub; rw [Term.nods_eq] at this; omega
          have hnkey : nodsL key.kids ≤ 1048577 := by have := nods_le key; rw [Term.nods_eq] at this; omega
          have hncert : nodsL cert.kids ≤ 1048577 := by have := nods_le cert; rw [Term.nods_eq] at this; omega
          have hk0 : decide (1 + 3 * (nodsL s.kids : Int) + 3 * (nodsL pub.kids : Int) + 3 * (nodsL key.kids : Int) + 3 * (nodsL cert.kids : Int) < 0) = false := decide_eq_false (by omega)
          have hk1 : decide (1 + 3 * (nodsL g.kids : Int) < 0) = false := decide_eq_false (by omega)
          have heg := eqTerm_ct g g
          rw [eqT_refl] at heg
          have hj := hi.weak (r' := .tup [g.v, .d true (.bool bb)]) (by simp [A.Le, A.LeL])
          refine ok14.ct mo Tryd.func14 (by simp) rfl fun hok => ?_
          unfold ac14
          simp only [Term.v_eq] at *
          repeat' first | assumption | (refine stle_of_eq rfl ?_; simp [StLe, leT, leH, A.Le, A.LeL, O.Le, lkp, freeT, freeH, A.free, A.freeL, cond_true, cond_false, nbeq, nble, nblt, decide_true, decide_false, Nat.reduceLT, Nat.reduceBEq, true_and, and_true, List.length_cons, List.length_nil, true_implies, and_self, Bool.and_true, Bool.true_and, Bool.and_self]; done) | apply s_cutT | first | refine s_opt1 ?_ | refine s_opt0 ?_ | refine s_optq1 ?_ | refine s_optq0 ?_ | (refine s_norm ?_; try simp only [wsN, wsI, rmv, rng, X.ev, lkp, peel, cond_true, cond_false, nbeq, Nat.reduceBEq, Nat.reduceSub, Nat.reduceAdd, Nat.zero_add, Nat.sub_zero, Nat.sub_self, List.length_cons, List.length_nil, List.length_append, List.cons_append, List.nil_append, List.append_nil]) | (refine s_take fun K hK => ?_) | (refine s_cons (fun K hK => ?_) ?_) | exact s_tnil | refine s_br ?_ | refine s_done ?_ | refine s_seq fun K hK => ?_ | refine s_region ?_ | refine s_draw ?_ | refine s_tree ?_ | refine s_op fun K hK => ?_ | refine s_opq fun K hK => ?_ | refine s_ops ?_ | refine s_endq ?_ | simp only [go_sem, Int.reduceToNat, Int.reduceEq, Nat.reduceAdd, Nat.reduceBEq, Nat.reduceLeDiff, Nat.reduceLT, Int.reduceLT, Int.reduceLE, Int.reduceNeg, reduceCtorEq, Bool.not_true, bne_self_eq_false, hds, hdpub, hdkey, hdcert, hk0, hk1] | (first | (refine hK _ ?_; clear hK K) | (clear hK K; refine hK _ ?_; clear hK K) | (clear hK K; clear hK K; refine hK _ ?_; clear hK K)) | refine And.intro ?_ ?_ | refine s_call szs ?_ | refine s_call szpub ?_ | refine s_call szkey ?_ | refine s_call szcert ?_ | refine s_call (mk := mkB _ _) hvs ?_ | refine s_call (mk := allB) hts ?_ | refine s_call hes ?_ | refine s_callq hes rfl ?_ | refine s_call (mk := mkB _ _) hvpub ?_ | refine s_call (mk := allB) htpub ?_ | refine s_call hepub ?_ | refine s_callq hepub rfl ?_ | refine s_call (mk := mkB _ _) hvkey ?_ | refine s_call (mk := allB) htkey ?_ | refine s_call hekey ?_ | refine s_callq hekey rfl ?_ | refine s_call (mk := mkB _ _) hvcert ?_ | refine s_call (mk := allB) htcert ?_ | refine s_call hecert ?_ | refine s_callq hecert rfl ?_ | refine s_call heg ?_ | refine s_callq heg rfl ?_ | refine s_mark rfl rfl (markTerm_m s _ (by omega) (by omega)) ?_ | refine s_mark rfl rfl (markTerm_m pub _ (by omega) (by omega)) ?_ | refine s_mark rfl rfl (markTerm_m key _ (by omega) (by omega)) ?_ | refine s_mark rfl rfl (markTerm_m cert _ (by omega) (by omega)) ?_ | refine s_mark rfl rfl (markTerm_m g _ (by omega) (by omega)) ?_ | refine s_call (heldTerm_ct g.op g.n g.s g.kids 1 (by decide) (by omega)) ?_ | refine s_call hs ?_ | refine s_call (mk := mkB _ _) hj ?_ | refine s_call (mk := allB) hi ?_
          all_goals first | (simp [go_sem, tids, A.tid, A.tid.go, List.cons_append, frzT, St.frz, A.sub, A.subL, O.sub, subT, subH, frzY, frzZ, Post, aret, evRs, RV.ev, tupA, A.Le, A.LeL, lkp, St.frzs, St.frz, A.ids, A.idsL, cond_true, cond_false, nbeq, nble, decide_true, decide_false, Nat.reduceLeDiff, Nat.reduceBEq, Nat.reduceAdd, beq_self_eq_true, true_and, and_true, true_implies, List.append_nil, List.nil_append, List.getElem?_cons_zero, List.getElem?_cons_succ, List.length_cons, List.length_nil, List.drop_zero, List.take_succ_cons, List.take_zero, and_self]; done) | trivial | (simp [A.LeL]; done) | omega
        · have hlcert : lft cert.cnt (1048576 - (s.cnt : Int) - (pub.cnt : Int) - (key.cnt : Int)) = -1 := if_neg hcert
          rw [hlcert] at szcert
          refine ok14.ct mo Tryd.func14 (by simp) rfl fun hok => ?_
          unfold ac14
          simp only [Term.v_eq] at *
          repeat' first | assumption | first | refine s_opt1 ?_ | refine s_opt0 ?_ | refine s_optq1 ?_ | refine s_optq0 ?_ | (refine s_norm ?_; try simp only [wsN, wsI, rmv, rng, X.ev, lkp, peel, cond_true, cond_false, nbeq, Nat.reduceBEq, Nat.reduceSub, Nat.reduceAdd, Nat.zero_add, Nat.sub_zero, Nat.sub_self, List.length_cons, List.length_nil, List.length_append, List.cons_append, List.nil_append, List.append_nil]) | (refine s_take fun K hK => ?_) | (refine s_cons (fun K hK => ?_) ?_) | exact s_tnil | refine s_br ?_ | refine s_done ?_ | refine s_seq fun K hK => ?_ | refine s_region ?_ | refine s_draw ?_ | refine s_tree ?_ | refine s_op fun K hK => ?_ | refine s_opq fun K hK => ?_ | refine s_ops ?_ | refine s_endq ?_ | simp only [go_sem, Int.reduceToNat, Int.reduceEq, Nat.reduceAdd, Nat.reduceBEq, Nat.reduceLeDiff, Nat.reduceLT, Int.reduceLT, Int.reduceLE, Int.reduceNeg, reduceCtorEq, hds, hdpub, hdkey, show decide ((-1 : Int) < 0) = true from rfl] | (first | (refine hK _ ?_; clear hK K) | (clear hK K; refine hK _ ?_; clear hK K) | (clear hK K; clear hK K; refine hK _ ?_; clear hK K)) | refine And.intro ?_ ?_ | refine s_call szs ?_ | refine s_call szpub ?_ | refine s_call szkey ?_ | refine s_call szcert ?_
          all_goals first | (simp [go_sem, tids, A.tid, A.tid.go, List.cons_append, frzT, St.frz, A.sub, A.subL, O.sub, subT, subH, frzY, frzZ, Post, aret, evRs, RV.ev, tupA, A.Le, A.LeL, lkp, St.frzs, St.frz, A.ids, A.idsL, cond_true, cond_false, nbeq, nble, decide_true, decide_false, Nat.reduceLeDiff, Nat.reduceBEq, Nat.reduceAdd, beq_self_eq_true, true_and, and_true, true_implies, List.append_nil, List.nil_append, List.getElem?_cons_zero, List.getElem?_cons_succ, List.length_cons, List.length_nil, List.drop_zero, List.take_succ_cons, List.take_zero, and_self]; done) | trivial
      · have hlkey : lft key.cnt (1048576 - (s.cnt : Int) - (pub.cnt : Int)) = -1 := if_neg hkey
        rw [hlkey] at szkey
        refine ok14.ct mo Tryd.func14 (by simp) rfl fun hok => ?_
        unfold ac14
        simp only [Term.v_eq] at *
        repeat' first | assumption | first | refine s_opt1 ?_ | refine s_opt0 ?_ | refine s_optq1 ?_ | refine s_optq0 ?_ | (refine s_norm ?_; try simp only [wsN, wsI, rmv, rng, X.ev, lkp, peel, cond_true, cond_false, nbeq, Nat.reduceBEq, Nat.reduceSub, Nat.reduceAdd, Nat.zero_add, Nat.sub_zero, Nat.sub_self, List.length_cons, List.length_nil, List.length_append, List.cons_append, List.nil_append, List.append_nil]) | (refine s_take fun K hK => ?_) | (refine s_cons (fun K hK => ?_) ?_) | exact s_tnil | refine s_br ?_ | refine s_done ?_ | refine s_seq fun K hK => ?_ | refine s_region ?_ | refine s_draw ?_ | refine s_tree ?_ | refine s_op fun K hK => ?_ | refine s_opq fun K hK => ?_ | refine s_ops ?_ | refine s_endq ?_ | simp only [go_sem, Int.reduceToNat, Int.reduceEq, Nat.reduceAdd, Nat.reduceBEq, Nat.reduceLeDiff, Nat.reduceLT, Int.reduceLT, Int.reduceLE, Int.reduceNeg, reduceCtorEq, hds, hdpub, show decide ((-1 : Int) < 0) = true from rfl] | (first | (refine hK _ ?_; clear hK K) | (clear hK K; refine hK _ ?_; clear hK K) | (clear hK K; clear hK K; refine hK _ ?_; clear hK K)) | refine And.intro ?_ ?_ | refine s_call szs ?_ | refine s_call szpub ?_ | refine s_call szkey ?_
        all_goals first | (simp [go_sem, tids, A.tid, A.tid.go, List.cons_append, frzT, St.frz, A.sub, A.subL, O.sub, subT, subH, frzY, frzZ, Post, aret, evRs, RV.ev, tupA, A.Le, A.LeL, lkp, St.frzs, St.frz, A.ids, A.idsL, cond_true, cond_false, nbeq, nble, decide_true, decide_false, Nat.reduceLeDiff, Nat.reduceBEq, Nat.reduceAdd, beq_self_eq_true, true_and, and_true, true_implies, List.append_nil, List.nil_append, List.getElem?_cons_zero, List.getElem?_cons_succ, List.length_cons, List.length_nil, List.drop_zero, List.take_succ_cons, List.take_zero, and_self]; done) | trivial
    · have hlpub : lft pub.cnt (1048576 - (s.cnt : Int)) = -1 := if_neg hpub
      rw [hlpub] at szpub
      refine ok14.ct mo Tryd.func14 (by simp) rfl fun hok => ?_
      unfold ac14
      simp only [Term.v_eq] at *
      repeat' first | assumption | first | refine s_opt1 ?_ | refine s_opt0 ?_ | refine s_optq1 ?_ | refine s_optq0 ?_ | (refine s_norm ?_; try simp only [wsN, wsI, rmv, rng, X.ev, lkp, peel, cond_true, cond_false, nbeq, Nat.reduceBEq, Nat.reduceSub, Nat.reduceAdd, Nat.zero_add, Nat.sub_zero, Nat.sub_self, List.length_cons, List.length_nil, List.length_append, List.cons_append, List.nil_append, List.append_nil]) | (refine s_take fun K hK => ?_) | (refine s_cons (fun K hK => ?_) ?_) | exact s_tnil | refine s_br ?_ | refine s_done ?_ | refine s_seq fun K hK => ?_ | refine s_region ?_ | refine s_draw ?_ | refine s_tree ?_ | refine s_op fun K hK => ?_ | refine s_opq fun K hK => ?_ | refine s_ops ?_ | refine s_endq ?_ | simp only [go_sem, Int.reduceToNat, Int.reduceEq, Nat.reduceAdd, Nat.reduceBEq, Nat.reduceLeDiff, Nat.reduceLT, Int.reduceLT, Int.reduceLE, Int.reduceNeg, reduceCtorEq, hds, show decide ((-1 : Int) < 0) = true from rfl] | (first | (refine hK _ ?_; clear hK K) | (clear hK K; refine hK _ ?_; clear hK K) | (clear hK K; clear hK K; refine hK _ ?_; clear hK K)) | refine And.intro ?_ ?_ | refine s_call szs ?_ | refine s_call szpub ?_
      all_goals first | (simp [go_sem, tids, A.tid, A.tid.go, List.cons_append, frzT, St.frz, A.sub, A.subL, O.sub, subT, subH, frzY, frzZ, Post, aret, evRs, RV.ev, tupA, A.Le, A.LeL, lkp, St.frzs, St.frz, A.ids, A.idsL, cond_true, cond_false, nbeq, nble, decide_true, decide_false, Nat.reduceLeDiff, Nat.reduceBEq, Nat.reduceAdd, beq_self_eq_true, true_and, and_true, true_implies, List.append_nil, List.nil_append, List.getElem?_cons_zero, List.getElem?_cons_succ, List.length_cons, List.length_nil, List.drop_zero, List.take_succ_cons, List.take_zero, and_self]; done) | trivial
  · have hls : lft s.cnt (1048576) = -1 := if_neg hs
    rw [hls] at szs
    refine ok14.ct mo Tryd.func14 (by simp) rfl fun hok => ?_
    unfold ac14
    simp only [Term.v_eq] at *
    repeat' first | assumption | first | refine s_opt1 ?_ | refine s_opt0 ?_ | refine s_optq1 ?_ | refine s_optq0 ?_ | (refine s_norm ?_; try simp only [wsN, wsI, rmv, rng, X.ev, lkp, peel, cond_true, cond_false, nbeq, Nat.reduceBEq, Nat.reduceSub, Nat.reduceAdd, Nat.zero_add, Nat.sub_zero, Nat.sub_self, List.length_cons, List.length_nil, List.length_append, List.cons_append, List.nil_append, List.append_nil]) | (refine s_take fun K hK => ?_) | (refine s_cons (fun K hK => ?_) ?_) | exact s_tnil | refine s_br ?_ | refine s_done ?_ | refine s_seq fun K hK => ?_ | refine s_region ?_ | refine s_draw ?_ | refine s_tree ?_ | refine s_op fun K hK => ?_ | refine s_opq fun K hK => ?_ | refine s_ops ?_ | refine s_endq ?_ | simp only [go_sem, Int.reduceToNat, Int.reduceEq, Nat.reduceAdd, Nat.reduceBEq, Nat.reduceLeDiff, Nat.reduceLT, Int.reduceLT, Int.reduceLE, Int.reduceNeg, reduceCtorEq, show decide ((-1 : Int) < 0) = true from rfl] | (first | (refine hK _ ?_; clear hK K) | (clear hK K; refine hK _ ?_; clear hK K) | (clear hK K; clear hK K; refine hK _ ?_; clear hK K)) | refine And.intro ?_ ?_ | refine s_call szs ?_
    all_goals first | (simp [go_sem, tids, A.tid, A.tid.go, List.cons_append, frzT, St.frz, A.sub, A.subL, O.sub, subT, subH, frzY, frzZ, Post, aret, evRs, RV.ev, tupA, A.Le, A.LeL, lkp, St.frzs, St.frz, A.ids, A.idsL, cond_true, cond_false, nbeq, nble, decide_true, decide_false, Nat.reduceLeDiff, Nat.reduceBEq, Nat.reduceAdd, beq_self_eq_true, true_and, and_true, true_implies, List.append_nil, List.nil_append, List.getElem?_cons_zero, List.getElem?_cons_succ, List.length_cons, List.length_nil, List.drop_zero, List.take_succ_cons, List.take_zero, and_self]; done) | trivial
end Go.Proofs.YtdnenindpapniaaDoor
