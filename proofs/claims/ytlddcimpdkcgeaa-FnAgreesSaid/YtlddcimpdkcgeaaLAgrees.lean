/- The law. -/
import Derived.Test.YtlddcimpdkcgeaaG7
import Derived.Test.YtlddcimpdkcgeaaF23
set_option linter.unusedVariables false
set_option linter.unusedSimpArgs false
set_option maxRecDepth 20000
set_option maxHeartbeats 16000000
namespace Go.Proofs.Ytlddcimpdkcgeaa
open Go.RowKit Sym Go
attribute [local irreducible] awp aops aopsQ gop gopQ gopO gopOQ gopV gopT awpN awpT awpTs ACall after
theorem big_ct (b : List Int) : Ct Try.prog 6 [.d false (.sl (encB b))] (.d true (.bool (decide (1048576 < (b.length : Int))))) := by
  refine ok6.ct mo Try.func6 (by simp) rfl fun hok => ?_
  unfold ac6
  repeat' first | assumption | first | refine s_opt1 ?_ | refine s_opt0 ?_ | refine s_optq1 ?_ | refine s_optq0 ?_ | (refine s_norm ?_; try simp only [wsN, wsI, rmv, rng, X.ev, lkp, peel, cond_true, cond_false, nbeq, Nat.reduceBEq, Nat.reduceSub, Nat.reduceAdd, Nat.zero_add, Nat.sub_zero, Nat.sub_self, List.length_cons, List.length_nil, List.length_append, List.cons_append, List.nil_append, List.append_nil]) | (refine s_take fun K hK => ?_) | (refine s_cons (fun K hK => ?_) ?_) | exact s_tnil | refine s_br ?_ | refine s_done ?_ | refine s_seq fun K hK => ?_ | refine s_region ?_ | refine s_draw ?_ | refine s_tree ?_ | refine s_op fun K hK => ?_ | refine s_opq fun K hK => ?_ | refine s_ops ?_ | refine s_endq ?_ | simp only [go_sem, Int.reduceToNat, Int.reduceEq, Nat.reduceAdd, Nat.reduceBEq, Nat.reduceLeDiff, Nat.reduceLT, Int.reduceLT, Int.reduceLE, Int.reduceNeg, reduceCtorEq, encB_length] | (first | (refine hK _ ?_; clear hK K) | (clear hK K; refine hK _ ?_; clear hK K) | (clear hK K; clear hK K; refine hK _ ?_; clear hK K)) | refine And.intro ?_ ?_
  all_goals first | (simp [go_sem, tids, A.tid, A.tid.go, List.cons_append, frzT, St.frz, A.sub, A.subL, O.sub, subT, subH, frzY, frzZ, Post, aret, evRs, RV.ev, tupA, A.Le, A.LeL, lkp, St.frzs, St.frz, A.ids, A.idsL, cond_true, cond_false, nbeq, nble, decide_true, decide_false, Nat.reduceLeDiff, Nat.reduceBEq, Nat.reduceAdd, beq_self_eq_true, true_and, and_true, true_implies, List.append_nil, List.nil_append, List.getElem?_cons_zero, List.getElem?_cons_succ, List.length_cons, List.length_nil, List.drop_zero, List.take_succ_cons, List.take_zero, and_self]; done) | trivial | skip
theorem law_Agrees (b : List Int) : Ct Try.prog 4 [.d false (.sl (encB b))] (.d true (.bool true)) := by
  have hbig := big_ct b
  refine ok4.ct mo Try.func4 (by simp) rfl fun hok => ?_
  unfold ac4
  by_cases hl : (1048576 : Int) < b.length
  · rw [decide_eq_true hl] at hbig
    repeat' first | assumption | first | refine s_opt1 ?_ | refine s_opt0 ?_ | refine s_optq1 ?_ | refine s_optq0 ?_ | (refine s_norm ?_; try simp only [wsN, wsI, rmv, rng, X.ev, lkp, peel, cond_true, cond_false, nbeq, Nat.reduceBEq, Nat.reduceSub, Nat.reduceAdd, Nat.zero_add, Nat.sub_zero, Nat.sub_self, List.length_cons, List.length_nil, List.length_append, List.cons_append, List.nil_append, List.append_nil]) | (refine s_take fun K hK => ?_) | (refine s_cons (fun K hK => ?_) ?_) | exact s_tnil | refine s_br ?_ | refine s_done ?_ | refine s_seq fun K hK => ?_ | refine s_region ?_ | refine s_draw ?_ | refine s_tree ?_ | refine s_op fun K hK => ?_ | refine s_opq fun K hK => ?_ | refine s_ops ?_ | refine s_endq ?_ | simp only [go_sem, Int.reduceToNat, Int.reduceEq, Nat.reduceAdd, Nat.reduceBEq, Nat.reduceLeDiff, Nat.reduceLT, Int.reduceLT, Int.reduceLE, Int.reduceNeg, reduceCtorEq] | (first | (refine hK _ ?_; clear hK K) | (clear hK K; refine hK _ ?_; clear hK K) | (clear hK K; clear hK K; refine hK _ ?_; clear hK K)) | refine And.intro ?_ ?_ | refine s_call hbig ?_
    all_goals first | (simp [go_sem, tids, A.tid, A.tid.go, List.cons_append, frzT, St.frz, A.sub, A.subL, O.sub, subT, subH, frzY, frzZ, Post, aret, evRs, RV.ev, tupA, A.Le, A.LeL, lkp, St.frzs, St.frz, A.ids, A.idsL, cond_true, cond_false, nbeq, nble, decide_true, decide_false, Nat.reduceLeDiff, Nat.reduceBEq, Nat.reduceAdd, beq_self_eq_true, true_and, and_true, true_implies, List.append_nil, List.nil_append, List.getElem?_cons_zero, List.getElem?_cons_succ, List.length_cons, List.length_nil, List.drop_zero, List.take_succ_cons, List.take_zero, and_self]; done) | trivial | skip
  · rw [decide_eq_false hl] at hbig
    have hb : b.length ≤ 1048576 := by omega
    repeat' first | assumption | first | refine s_opt1 ?_ | refine s_opt0 ?_ | refine s_optq1 ?_ | refine s_optq0 ?_ | (refine s_norm ?_; try simp only [wsN, wsI, rmv, rng, X.ev, lkp, peel, cond_true, cond_false, nbeq, Nat.reduceBEq, Nat.reduceSub, Nat.reduceAdd, Nat.zero_add, Nat.sub_zero, Nat.sub_self, List.length_cons, List.length_nil, List.length_append, List.cons_append, List.nil_append, List.append_nil]) | (refine s_take fun K hK => ?_) | (refine s_cons (fun K hK => ?_) ?_) | exact s_tnil | refine s_br ?_ | refine s_done ?_ | refine s_seq fun K hK => ?_ | refine s_region ?_ | refine s_draw ?_ | refine s_tree ?_ | refine s_op fun K hK => ?_ | refine s_opq fun K hK => ?_ | refine s_ops ?_ | refine s_endq ?_ | simp only [go_sem, Int.reduceToNat, Int.reduceEq, Nat.reduceAdd, Nat.reduceBEq, Nat.reduceLeDiff, Nat.reduceLT, Int.reduceLT, Int.reduceLE, Int.reduceNeg, reduceCtorEq] | (first | (refine hK _ ?_; clear hK K) | (clear hK K; refine hK _ ?_; clear hK K) | (clear hK K; clear hK K; refine hK _ ?_; clear hK K)) | refine And.intro ?_ ?_ | refine s_call hbig ?_ | refine s_callh [] [] (drawAgree_ct b hb) rfl rfl (by first | trivial | exact ⟨rfl, trivial⟩) (by decide) rfl (by first | trivial | exact ⟨rfl, trivial⟩ | simp [allK, mkB, inL]) ?_
    all_goals first | (show ∀ _ _, _ → _; skip) | (simp; done) | skip
    rintro r hs ⟨a, p, ha, hp, rfl, rfl⟩
    have hs := (agree1_ct a p (by omega) (by omega))
    have hi := (agree2_ct a p (by omega) (by omega)).weak (r' := optV (agreeT a p)) (by simp [A.Le, A.LeL, Term.v, Term.w])
    have hpub := (pub2_ct a (by omega)).weak (r' := (rightOr (.mk 4 0 ⟨#[]⟩ [a])).v) (by simp [A.Le, A.LeL, Term.v, Term.w])
    have hpc : (rightOr (.mk 4 0 ⟨#[]⟩ [a])).cnt ≤ 2100 := by
      have := rightOr_cnt (.mk 4 0 ⟨#[]⟩ [a])
      simp only [Term.cnt, cnts, sz0, List.length_cons, List.length_nil] at this
      omega
    rcases hag : agreeT a p with _ | x
    · have hsame := same2_ct noT noT
      rw [eqT_refl] at hsame
      rw [hag] at hs hi
      simp only [optV, Option.getD_none, Option.isSome_none, noT, Term.v_eq, op_mk, n_mk, s_mk, kids_mk, encs] at hs hi hsame
      repeat' first | assumption | first | refine s_opt1 ?_ | refine s_opt0 ?_ | refine s_optq1 ?_ | refine s_optq0 ?_ | (refine s_norm ?_; try simp only [wsN, wsI, rmv, rng, X.ev, lkp, peel, cond_true, cond_false, nbeq, Nat.reduceBEq, Nat.reduceSub, Nat.reduceAdd, Nat.zero_add, Nat.sub_zero, Nat.sub_self, List.length_cons, List.length_nil, List.length_append, List.cons_append, List.nil_append, List.append_nil]) | (refine s_take fun K hK => ?_) | (refine s_cons (fun K hK => ?_) ?_) | exact s_tnil | refine s_br ?_ | refine s_done ?_ | refine s_seq fun K hK => ?_ | refine s_region ?_ | refine s_draw ?_ | refine s_tree ?_ | refine s_op fun K hK => ?_ | refine s_opq fun K hK => ?_ | refine s_ops ?_ | refine s_endq ?_ | simp only [go_sem, Int.reduceToNat, Int.reduceEq, Nat.reduceAdd, Nat.reduceBEq, Nat.reduceLeDiff, Nat.reduceLT, Int.reduceLT, Int.reduceLE, Int.reduceNeg, reduceCtorEq] | (first | (refine hK _ ?_; clear hK K) | (clear hK K; refine hK _ ?_; clear hK K) | (clear hK K; clear hK K; refine hK _ ?_; clear hK K)) | refine And.intro ?_ ?_ | refine s_call hs ?_ | refine s_call hi ?_ | refine s_call hsame ?_ | refine s_callq hsame rfl ?_
      all_goals first | (simp [go_sem, tids, A.tid, A.tid.go, List.cons_append, frzT, St.frz, A.sub, A.subL, O.sub, subT, subH, frzY, frzZ, Post, aret, evRs, RV.ev, tupA, A.Le, A.LeL, lkp, St.frzs, St.frz, A.ids, A.idsL, cond_true, cond_false, nbeq, nble, decide_true, decide_false, Nat.reduceLeDiff, Nat.reduceBEq, Nat.reduceAdd, beq_self_eq_true, true_and, and_true, true_implies, List.append_nil, List.nil_append, List.getElem?_cons_zero, List.getElem?_cons_succ, List.length_cons, List.length_nil, List.drop_zero, List.take_succ_cons, List.take_zero, and_self]; done) | trivial | skip
    · obtain ⟨u, hk, h1, h4, hx, hok⟩ := agree_inv hag
      have hsame := same2_ct x x
      rw [eqT_refl] at hsame
      have hsz := size2_ct x
      have hto := termOk2_ct x
      rw [hok] at hto
      have hx2 : 0 ≤ x.size ∧ x.size ≤ 200 := by
        have h0 := (ok_iff.1 hok).1
        have := size_of (t := x) (by have := shareT_cnt a u; have := cnt_mem (t := p) (x := u) (by rw [hk]; simp); rw [hx]; omega)
        omega
      have hw : wrap64 (x.size + 1) = x.size + 1 := w64 (by omega) (by omega)
      have hb2 := (agree2_ct u (rightOr (.mk 4 0 ⟨#[]⟩ [a])) (by have := cnt_mem (t := p) (x := u) (by rw [hk]; simp); omega) (by omega)).weak (r' := optV (agreeT u (rightOr (.mk 4 0 ⟨#[]⟩ [a])))) (by simp [A.Le, A.LeL, Term.v, Term.w])
      have hback := agree_back (a := a) (p := p) (x := x) (b := u) (by omega) (by omega) hk hag
      rw [hag] at hs hi
      clear hag hx
      generalize rightOr (.mk 4 0 ⟨#[]⟩ [a]) = g at *
      by_cases hsm : x.size + 1 ≤ 200
      · have hd : decide (200 < x.size + 1) = false := decide_eq_false (by omega)
        rw [hback hsm] at hb2
        clear hback
        simp only [optV, Option.getD_some, Option.isSome_some, Term.v_eq, hk, encs, Term.enc_eq] at hs hi hsame hb2 hpub hsz hto
        repeat' first | assumption | first | refine s_opt1 ?_ | refine s_opt0 ?_ | refine s_optq1 ?_ | refine s_optq0 ?_ | (refine s_norm ?_; try simp only [wsN, wsI, rmv, rng, X.ev, lkp, peel, cond_true, cond_false, nbeq, Nat.reduceBEq, Nat.reduceSub, Nat.reduceAdd, Nat.zero_add, Nat.sub_zero, Nat.sub_self, List.length_cons, List.length_nil, List.length_append, List.cons_append, List.nil_append, List.append_nil]) | (refine s_take fun K hK => ?_) | (refine s_cons (fun K hK => ?_) ?_) | exact s_tnil | refine s_br ?_ | refine s_done ?_ | refine s_seq fun K hK => ?_ | refine s_region ?_ | refine s_draw ?_ | refine s_tree ?_ | refine s_op fun K hK => ?_ | refine s_opq fun K hK => ?_ | refine s_ops ?_ | refine s_endq ?_ | simp only [go_sem, Int.reduceToNat, Int.reduceEq, Nat.reduceAdd, Nat.reduceBEq, Nat.reduceLeDiff, Nat.reduceLT, Int.reduceLT, Int.reduceLE, Int.reduceNeg, reduceCtorEq, hk, encs, Term.enc_eq, hw, hd] | (first | (refine hK _ ?_; clear hK K) | (clear hK K; refine hK _ ?_; clear hK K) | (clear hK K; clear hK K; refine hK _ ?_; clear hK K)) | refine And.intro ?_ ?_ | refine s_call hs ?_ | refine s_call hi ?_ | refine s_call hsame ?_ | refine s_callq hsame rfl ?_ | refine s_call hpub ?_ | refine s_call hb2 ?_ | refine s_call hsz ?_ | refine s_callq hsz rfl ?_ | refine s_call hto ?_ | refine s_callq hto rfl ?_
        all_goals first | (simp [go_sem, tids, A.tid, A.tid.go, List.cons_append, frzT, St.frz, A.sub, A.subL, O.sub, subT, subH, frzY, frzZ, Post, aret, evRs, RV.ev, tupA, A.Le, A.LeL, lkp, St.frzs, St.frz, A.ids, A.idsL, cond_true, cond_false, nbeq, nble, decide_true, decide_false, Nat.reduceLeDiff, Nat.reduceBEq, Nat.reduceAdd, beq_self_eq_true, true_and, and_true, true_implies, List.append_nil, List.nil_append, List.getElem?_cons_zero, List.getElem?_cons_succ, List.length_cons, List.length_nil, List.drop_zero, List.take_succ_cons, List.take_zero, and_self]; done) | trivial | skip
      · have hd : decide (200 < x.size + 1) = true := decide_eq_true (by omega)
        clear hback
        simp only [optV] at hb2
        have hq := same2_ct ((agreeT u g).getD noT) x
        generalize (agreeT u g).getD noT = y at *
        generalize (agreeT u g).isSome = fine at *
        generalize eqT y x = same at *
        simp only [optV, Option.getD_some, Option.isSome_some, Term.v_eq, hk, encs, Term.enc_eq] at hs hi hsame hb2 hpub hsz hto hq
        cases fine <;> cases same
        all_goals
          repeat' first | assumption | first | refine s_opt1 ?_ | refine s_opt0 ?_ | refine s_optq1 ?_ | refine s_optq0 ?_ | (refine s_norm ?_; try simp only [wsN, wsI, rmv, rng, X.ev, lkp, peel, cond_true, cond_false, nbeq, Nat.reduceBEq, Nat.reduceSub, Nat.reduceAdd, Nat.zero_add, Nat.sub_zero, Nat.sub_self, List.length_cons, List.length_nil, List.length_append, List.cons_append, List.nil_append, List.append_nil]) | (refine s_take fun K hK => ?_) | (refine s_cons (fun K hK => ?_) ?_) | exact s_tnil | refine s_br ?_ | refine s_done ?_ | refine s_seq fun K hK => ?_ | refine s_region ?_ | refine s_draw ?_ | refine s_tree ?_ | refine s_op fun K hK => ?_ | refine s_opq fun K hK => ?_ | refine s_ops ?_ | refine s_endq ?_ | simp only [go_sem, Int.reduceToNat, Int.reduceEq, Nat.reduceAdd, Nat.reduceBEq, Nat.reduceLeDiff, Nat.reduceLT, Int.reduceLT, Int.reduceLE, Int.reduceNeg, reduceCtorEq, hk, encs, Term.enc_eq, hw, hd] | (first | (refine hK _ ?_; clear hK K) | (clear hK K; refine hK _ ?_; clear hK K) | (clear hK K; clear hK K; refine hK _ ?_; clear hK K)) | refine And.intro ?_ ?_ | refine s_call hs ?_ | refine s_call hi ?_ | refine s_call hsame ?_ | refine s_callq hsame rfl ?_ | refine s_call hpub ?_ | refine s_call hb2 ?_ | refine s_call hsz ?_ | refine s_callq hsz rfl ?_ | refine s_call hto ?_ | refine s_callq hto rfl ?_ | refine s_callq hq rfl ?_ | refine s_call hq ?_
          all_goals first | (simp [go_sem, tids, A.tid, A.tid.go, List.cons_append, frzT, St.frz, A.sub, A.subL, O.sub, subT, subH, frzY, frzZ, Post, aret, evRs, RV.ev, tupA, A.Le, A.LeL, lkp, St.frzs, St.frz, A.ids, A.idsL, cond_true, cond_false, nbeq, nble, decide_true, decide_false, Nat.reduceLeDiff, Nat.reduceBEq, Nat.reduceAdd, beq_self_eq_true, true_and, and_true, true_implies, List.append_nil, List.nil_append, List.getElem?_cons_zero, List.getElem?_cons_succ, List.length_cons, List.length_nil, List.drop_zero, List.take_succ_cons, List.take_zero, and_self]; done) | trivial | skip
end Go.Proofs.Ytlddcimpdkcgeaa
