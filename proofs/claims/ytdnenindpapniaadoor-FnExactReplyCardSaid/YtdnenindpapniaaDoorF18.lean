/- Replies. -/
import Derived.Test.YtdnenindpapniaaDoorF16
import Derived.Test.YtdnenindpapniaaDoorF14
set_option linter.unusedVariables false
set_option maxRecDepth 20000
set_option maxHeartbeats 30000000
set_option linter.unusedSimpArgs false
namespace Go.Proofs.YtdnenindpapniaaDoor
open Go.RowKit Sym
attribute [local irreducible] awp aops aopsQ gop gopQ gopO gopOQ gopV gopT awpN awpT awpTs ACall after

def replyS : ByteArray := ⟨#[114, 101, 112, 108, 121]⟩
def signT (k x : Term) : Term := rightOr (.mk 8 0 ⟨#[]⟩ [k, x])
theorem signT_cnt (k x : Term) : (signT k x).cnt ≤ 2 + (k.cnt + x.cnt) := rightOr_le (by rw [cnt2]; exact Nat.le_refl _)
def bodyT (s pub key cert : Term) : Term := pairT cert (signT key (hashT (pairT pub (pubT s))))
theorem bodyT_cnt (s pub key cert : Term) : (bodyT s pub key cert).cnt ≤ s.cnt + pub.cnt + key.cnt + cert.cnt + 10 := by
  have h1 := pubT_cnt s
  have h2 := pairT_cnt pub (pubT s)
  have h3 := hashT_cnt (pairT pub (pubT s))
  have h4 := signT_cnt key (hashT (pairT pub (pubT s)))
  have h5 := pairT_cnt cert (signT key (hashT (pairT pub (pubT s))))
  unfold bodyT
  omega
def replyG (sh s pub key cert : Term) : Term := pairT (textT replyS) (pairT (pubT s) (sealT (keyT sh 0) 0 (bodyT s pub key cert)))
theorem replyG_cnt (sh s pub key cert : Term) : (replyG sh s pub key cert).cnt ≤ sh.cnt + 2 * s.cnt + pub.cnt + key.cnt + cert.cnt + 200 := by
  have h1 := pubT_cnt s
  have h2 := bodyT_cnt s pub key cert
  have h3 := keyT_cnt sh 0
  have h4 := sealT_cnt (keyT sh 0) (bodyT s pub key cert) 0
  have h5 := pairT_cnt (pubT s) (sealT (keyT sh 0) 0 (bodyT s pub key cert))
  have h6 := pairT_cnt (textT replyS) (pairT (pubT s) (sealT (keyT sh 0) 0 (bodyT s pub key cert)))
  have h7 : (textT replyS).cnt = 5 := by rw [textT_cnt]; rfl
  unfold replyG
  omega
theorem pair_or (a b : Term) : (pairT a b).op = 3 ∨ pairT a b = noT := by
  unfold pairT rightOr
  cases okT (.mk 3 0 ⟨#[]⟩ [a, b]) with
  | true => exact .inl rfl
  | false => exact .inr rfl
def replyO (s pub key cert : Term) : Option Term := match agreeT s pub with
  | some sh => if (replyG sh s pub key cert).op = 3 then some (replyG sh s pub key cert) else none
  | none => none
theorem replyO_cnt (s pub key cert : Term) : ((replyO s pub key cert).getD noT).cnt ≤ 3 * s.cnt + 2 * pub.cnt + key.cnt + cert.cnt + 300 := by
  have h0 := noT_cnt
  have ha := agreeT_cnt s pub
  unfold replyO
  cases h : agreeT s pub with
  | none => simp only [Option.getD_none]; omega
  | some sh =>
    rw [h] at ha
    simp only [Option.getD_some] at ha
    have hg := replyG_cnt sh s pub key cert
    by_cases h3 : (replyG sh s pub key cert).op = 3
    · simp only [if_pos h3, Option.getD_some]; omega
    · simp only [if_neg h3, Option.getD_none]; omega
theorem reply1_ct (s pub key cert : Term) (h : s.cnt + pub.cnt + key.cnt + cert.cnt ≤ 1048576) : Ct Tryd.prog 51 [s.v, pub.v, key.v, cert.v] (optV (replyO s pub key cert)) := by
  have c1 := agree1_ct s pub (by omega) (by omega)
  have ha := agreeT_cnt s pub
  refine ok51.ct mo Tryd.func51 (by simp) rfl fun hok => ?_
  unfold ac51
  cases hag : agreeT s pub with
  | none =>
    rw [show replyO s pub key cert = none by unfold replyO; rw [hag]]
    rw [hag] at c1
    simp only [optV, Option.getD_none, Option.isSome_none, noT, Term.v_eq, op_mk, n_mk, s_mk, kids_mk, encs] at *
    repeat' first | assumption | first | refine s_opt1 ?_ | refine s_opt0 ?_ | refine s_optq1 ?_ | refine s_optq0 ?_ | (refine s_norm ?_; try simp only [wsN, wsI, rmv, rng, X.ev, lkp, peel, cond_true, cond_false, nbeq, Nat.reduceBEq, Nat.reduceSub, Nat.reduceAdd, Nat.zero_add, Nat.sub_zero, Nat.sub_self, List.length_cons, List.length_nil, List.length_append, List.cons_append, List.nil_append, List.append_nil]) | (refine s_take fun K hK => ?_) | (refine s_cons (fun K hK => ?_) ?_) | exact s_tnil | refine s_br ?_ | refine s_done ?_ | refine s_seq fun K hK => ?_ | refine s_region ?_ | refine s_draw ?_ | refine s_tree ?_ | refine s_op fun K hK => ?_ | refine s_opq fun K hK => ?_ | refine s_ops ?_ | refine s_endq ?_ | simp only [go_sem, Int.reduceToNat, Int.reduceEq, Nat.reduceAdd, Nat.reduceBEq, Nat.reduceLeDiff, Nat.reduceLT, Int.reduceLT, Int.reduceLE, Int.reduceNeg, reduceCtorEq] | (first | (refine hK _ ?_; clear hK K) | (clear hK K; refine hK _ ?_; clear hK K) | (clear hK K; clear hK K; refine hK _ ?_; clear hK K)) | refine And.intro ?_ ?_ | refine s_call c1 ?_
    all_goals first | (simp [go_sem, tids, A.tid, A.tid.go, List.cons_append, frzT, St.frz, A.sub, A.subL, O.sub, subT, subH, frzY, frzZ, Post, aret, evRs, RV.ev, tupA, A.Le, A.LeL, lkp, St.frzs, St.frz, A.ids, A.idsL, cond_true, cond_false, nbeq, nble, decide_true, decide_false, Nat.reduceLeDiff, Nat.reduceBEq, Nat.reduceAdd, beq_self_eq_true, true_and, and_true, true_implies, List.append_nil, List.nil_append, List.getElem?_cons_zero, List.getElem?_cons_succ, List.length_cons, List.length_nil, List.drop_zero, List.take_succ_cons, List.take_zero, and_self]; done) | (simp [A.LeL]; done) | rfl | (simp [op_mk, n_mk, s_mk, kids_mk, encs, A.Le, A.LeL]; done) | skip
  | some sh =>
    rw [show replyO s pub key cert = if (replyG sh s pub key cert).op = 3 then some (replyG sh s pub key cert) else none by unfold replyO; rw [hag]]
    rw [hag] at c1 ha
    simp only [Option.getD_some] at ha
    have b1 := pubT_cnt s
    have b2 := pairT_cnt pub (pubT s)
    have b3 := hashT_cnt (pairT pub (pubT s))
    have b4 := signT_cnt key (hashT (pairT pub (pubT s)))
    have b5 := bodyT_cnt s pub key cert
    have b6 := keyT_cnt sh 0
    have b7 := sealT_cnt (keyT sh 0) (bodyT s pub key cert) 0
    have b8 := pairT_cnt (pubT s) (sealT (keyT sh 0) 0 (bodyT s pub key cert))
    have b9 : (textT replyS).cnt = 5 := by rw [textT_cnt]; rfl
    have c2 := pub1_ct s (by omega)
    have c3 := both1_ct pub (pubT s) (by omega)
    have c4 := sign1_ct key (hashT (pairT pub (pubT s))) (by omega) (by omega)
    have c5 := pair1_ct cert (signT key (hashT (pairT pub (pubT s)))) (by omega) (by omega)
    have c6 := key1_ct sh 0 (by omega)
    have c7 := seal1_ct (keyT sh 0) 0 (bodyT s pub key cert) (by omega) (by omega)
    have c8 := pair1_ct (pubT s) (sealT (keyT sh 0) 0 (bodyT s pub key cert)) (by omega) (by omega)
    have c9 := text1_ct replyS
    have c10 := pair1_ct (textT replyS) (pairT (pubT s) (sealT (keyT sh 0) 0 (bodyT s pub key cert))) (by omega) (by omega)
    change Ct _ _ _ (pubT s).v at c2
    change Ct _ _ _ (signT key (hashT (pairT pub (pubT s)))).v at c4
    change Ct _ _ _ (bodyT s pub key cert).v at c5
    change Ct _ _ _ (pairT (pubT s) (sealT (keyT sh 0) 0 (bodyT s pub key cert))).v at c8
    change Ct _ _ _ (replyG sh s pub key cert).v at c10
    have hor := pair_or (textT replyS) (pairT (pubT s) (sealT (keyT sh 0) 0 (bodyT s pub key cert)))
    change (replyG sh s pub key cert).op = 3 ∨ replyG sh s pub key cert = noT at hor
    clear b1 b2 b3 b4 b5 b6 b7 b8 b9 ha hag
    generalize replyG sh s pub key cert = g at *
    generalize pairT (pubT s) (sealT (keyT sh 0) 0 (bodyT s pub key cert)) = t8 at *
    generalize sealT (keyT sh 0) 0 (bodyT s pub key cert) = t7 at *
    generalize keyT sh 0 = t6 at *
    generalize bodyT s pub key cert = t5 at *
    generalize signT key (hashT (pairT pub (pubT s))) = t4 at *
    generalize hashT (pairT pub (pubT s)) = t3 at *
    generalize pubT s = t2 at *
    unfold replyS at *
    generalize textT _ = t9 at *
    rcases hor with h3 | rfl
    · have d3 : decide (g.op = 3) = true := decide_eq_true h3
      simp only [if_pos h3, optV, Option.getD_some, Option.isSome_some, Term.v_eq] at *
      repeat' first | assumption | first | refine s_opt1 ?_ | refine s_opt0 ?_ | refine s_optq1 ?_ | refine s_optq0 ?_ | (refine s_norm ?_; try simp only [wsN, wsI, rmv, rng, X.ev, lkp, peel, cond_true, cond_false, nbeq, Nat.reduceBEq, Nat.reduceSub, Nat.reduceAdd, Nat.zero_add, Nat.sub_zero, Nat.sub_self, List.length_cons, List.length_nil, List.length_append, List.cons_append, List.nil_append, List.append_nil]) | (refine s_take fun K hK => ?_) | (refine s_cons (fun K hK => ?_) ?_) | exact s_tnil | refine s_br ?_ | refine s_done ?_ | refine s_seq fun K hK => ?_ | refine s_region ?_ | refine s_draw ?_ | refine s_tree ?_ | refine s_op fun K hK => ?_ | refine s_opq fun K hK => ?_ | refine s_ops ?_ | refine s_endq ?_ | simp only [go_sem, Int.reduceToNat, Int.reduceEq, Nat.reduceAdd, Nat.reduceBEq, Nat.reduceLeDiff, Nat.reduceLT, Int.reduceLT, Int.reduceLE, Int.reduceNeg, reduceCtorEq, d3] | (first | (refine hK _ ?_; clear hK K) | (clear hK K; refine hK _ ?_; clear hK K) | (clear hK K; clear hK K; refine hK _ ?_; clear hK K)) | refine And.intro ?_ ?_ | refine s_call c1 ?_ | refine s_call c2 ?_ | refine s_call c3 ?_ | refine s_call c4 ?_ | refine s_call c5 ?_ | refine s_call c6 ?_ | refine s_call c7 ?_ | refine s_call c8 ?_ | refine s_call c9 ?_ | refine s_call c10 ?_
      all_goals first | (simp [go_sem, tids, A.tid, A.tid.go, List.cons_append, frzT, St.frz, A.sub, A.subL, O.sub, subT, subH, frzY, frzZ, Post, aret, evRs, RV.ev, tupA, A.Le, A.LeL, lkp, St.frzs, St.frz, A.ids, A.idsL, cond_true, cond_false, nbeq, nble, decide_true, decide_false, Nat.reduceLeDiff, Nat.reduceBEq, Nat.reduceAdd, beq_self_eq_true, true_and, and_true, true_implies, List.append_nil, List.nil_append, List.getElem?_cons_zero, List.getElem?_cons_succ, List.length_cons, List.length_nil, List.drop_zero, List.take_succ_cons, List.take_zero, and_self]; done) | (simp [A.LeL]; done) | rfl | skip
    · have hn : ¬ noT.op = 3 := by decide
      simp only [if_neg hn, optV, Option.getD_some, Option.isSome_some, Option.getD_none, Option.isSome_none] at *
      simp only [noT, Term.v_eq, op_mk, n_mk, s_mk, kids_mk, encs] at *
      repeat' first | assumption | first | refine s_opt1 ?_ | refine s_opt0 ?_ | refine s_optq1 ?_ | refine s_optq0 ?_ | (refine s_norm ?_; try simp only [wsN, wsI, rmv, rng, X.ev, lkp, peel, cond_true, cond_false, nbeq, Nat.reduceBEq, Nat.reduceSub, Nat.reduceAdd, Nat.zero_add, Nat.sub_zero, Nat.sub_self, List.length_cons, List.length_nil, List.length_append, List.cons_append, List.nil_append, List.append_nil]) | (refine s_take fun K hK => ?_) | (refine s_cons (fun K hK => ?_) ?_) | exact s_tnil | refine s_br ?_ | refine s_done ?_ | refine s_seq fun K hK => ?_ | refine s_region ?_ | refine s_draw ?_ | refine s_tree ?_ | refine s_op fun K hK => ?_ | refine s_opq fun K hK => ?_ | refine s_ops ?_ | refine s_endq ?_ | simp only [go_sem, Int.reduceToNat, Int.reduceEq, Nat.reduceAdd, Nat.reduceBEq, Nat.reduceLeDiff, Nat.reduceLT, Int.reduceLT, Int.reduceLE, Int.reduceNeg, reduceCtorEq] | (first | (refine hK _ ?_; clear hK K) | (clear hK K; refine hK _ ?_; clear hK K) | (clear hK K; clear hK K; refine hK _ ?_; clear hK K)) | refine And.intro ?_ ?_ | refine s_call c1 ?_ | refine s_call c2 ?_ | refine s_call c3 ?_ | refine s_call c4 ?_ | refine s_call c5 ?_ | refine s_call c6 ?_ | refine s_call c7 ?_ | refine s_call c8 ?_ | refine s_call c9 ?_ | refine s_call c10 ?_
      all_goals first | (simp [go_sem, tids, A.tid, A.tid.go, List.cons_append, frzT, St.frz, A.sub, A.subL, O.sub, subT, subH, frzY, frzZ, Post, aret, evRs, RV.ev, tupA, A.Le, A.LeL, lkp, St.frzs, St.frz, A.ids, A.idsL, cond_true, cond_false, nbeq, nble, decide_true, decide_false, Nat.reduceLeDiff, Nat.reduceBEq, Nat.reduceAdd, beq_self_eq_true, true_and, and_true, true_implies, List.append_nil, List.nil_append, List.getElem?_cons_zero, List.getElem?_cons_succ, List.length_cons, List.length_nil, List.drop_zero, List.take_succ_cons, List.take_zero, and_self]; done) | (simp [A.LeL]; done) | rfl | skip
end Go.Proofs.YtdnenindpapniaaDoor
