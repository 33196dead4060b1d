/- Replies, by the program. -/
import Derived.Test.YtdnenindpapniaaDoorF18
set_option linter.unusedVariables false
set_option maxRecDepth 20000
set_option maxHeartbeats 30000000
set_option linter.unusedSimpArgs false
namespace Go.Proofs.YtdnenindpapniaaDoor
open Go.RowKit Sym
attribute [local irreducible] awp aops aopsQ gop gopQ gopO gopOQ gopV gopT awpN awpT awpTs ACall after
theorem reply2_ct (s pub key cert : Term) (h : s.cnt + pub.cnt + key.cnt + cert.cnt ≤ 1048576) : Ct Tryd.prog 52 [s.v, pub.v, key.v, cert.v] (optW (replyO s pub key cert)) := by
  have c1 : Ct Tryd.prog 102 [s.v, pub.v] (optV (agreeT s pub)) := (agree2_ct s pub (by omega) (by omega)).weak (by simp [optW, optV, A.Le, A.LeL])
  have ha := agreeT_cnt s pub
  have hrep : replyO s pub key cert = bif (agreeT s pub).isSome then (if (replyG ((agreeT s pub).getD noT) s pub key cert).op = 3 then some (replyG ((agreeT s pub).getD noT) s pub key cert) else none) else none := by
    unfold replyO
    cases agreeT s pub <;> rfl
  rw [hrep]
  simp only [optV] at c1
  generalize (agreeT s pub).getD noT = sh at *
  generalize (agreeT s pub).isSome = bo at *
  have b1 := pubT_cnt s
  have b2 := pairT_cnt pub (pubT s)
  have b3 := hashT_cnt (pairT pub (pubT s))
  have b4 := signT_cnt key (hashT (pairT pub (pubT s)))
  have b5 := bodyT_cnt s pub key cert
  have b6 := keyT_cnt sh 0
  have b7 := sealT_cnt (keyT sh 0) (bodyT s pub key cert) 0
  have b8 := pairT_cnt (pubT s) (sealT (keyT sh 0) 0 (bodyT s pub key cert))
  have b9 : (textT replyS).cnt = 5 := by rw [textT_cnt]; rfl
  have c2 := Term.w_v (pub2_ct s (by omega))
  have c3 := Term.w_v (both2_ct pub (pubT s) (by omega))
  have c4 := Term.w_v (sign2_ct key (hashT (pairT pub (pubT s))) (by omega) (by omega))
  have c5 := Term.w_v (pair2_ct cert (signT key (hashT (pairT pub (pubT s)))) (by omega) (by omega))
  have c6 := Term.w_v (key2_ct sh 0 (by omega))
  have c7 := Term.w_v (seal2_ct (keyT sh 0) 0 (bodyT s pub key cert) (by omega) (by omega))
  have c8 := Term.w_v (pair2_ct (pubT s) (sealT (keyT sh 0) 0 (bodyT s pub key cert)) (by omega) (by omega))
  have c9 := text2_ct replyS
  have c10 := pair2_ct (textT replyS) (pairT (pubT s) (sealT (keyT sh 0) 0 (bodyT s pub key cert))) (by omega) (by omega)
  change Ct _ _ _ (pubT s).v at c2
  change Ct _ _ _ (signT key (hashT (pairT pub (pubT s)))).v at c4
  change Ct _ _ _ (bodyT s pub key cert).v at c5
  change Ct _ _ _ (pairT (pubT s) (sealT (keyT sh 0) 0 (bodyT s pub key cert))).v at c8
  change Ct _ _ _ (replyG sh s pub key cert).w at c10
  clear b1 b2 b3 b4 b5 b6 b7 b8 b9 ha hrep
  generalize replyG sh s pub key cert = g at *
  generalize pairT (pubT s) (sealT (keyT sh 0) 0 (bodyT s pub key cert)) = t8 at *
  generalize sealT (keyT sh 0) 0 (bodyT s pub key cert) = t7 at *
  generalize keyT sh 0 = t6 at *
  generalize bodyT s pub key cert = t5 at *
  generalize signT key (hashT (pairT pub (pubT s))) = t4 at *
  generalize hashT (pairT pub (pubT s)) = t3 at *
  generalize pubT s = t2 at *
  unfold replyS at *
  generalize textT _ = t9 at *
  have hf0 : (bif !bo then true else !decide (g.op = 3)) = true → (bif bo then (if g.op = 3 then some g else none) else none : Option Term) = none := by cases bo <;> by_cases h3 : g.op = 3 <;> simp [h3]
  have hf1 : (bif !bo then true else !decide (g.op = 3)) = false → (bif bo then (if g.op = 3 then some g else none) else none : Option Term) = some g := by cases bo <;> by_cases h3 : g.op = 3 <;> simp [h3]
  generalize hR : (bif bo then (if g.op = 3 then some g else none) else none : Option Term) = R at *
  refine ok52.ct mo Tryd.func52 (by simp) rfl fun hok => ?_
  unfold ac52
  have ho : optW R = .tup [.agg [.d false (.int .i64 (R.getD noT).op), .d false (.int .i64 (R.getD noT).n), .d false (.str (R.getD noT).s), .d true (.sl (encs (R.getD noT).kids))], .d true (.bool R.isSome)] := rfl
  generalize optW R = oR at *
  simp only [Term.v_eq] at *
  repeat' first | assumption | (refine stle_of_eq rfl ?_; simp [StLe, leT, leH, A.Le, A.LeL, O.Le, lkp, freeT, freeH, A.free, A.freeL, cond_true, cond_false, nbeq, nble, nblt, decide_true, decide_false, Nat.reduceLT, Nat.reduceBEq, true_and, and_true, List.length_cons, List.length_nil, true_implies, and_self, Bool.and_true, Bool.true_and, Bool.and_self]; done) | apply s_cutT (keep := [8, 10, 11, 12, 13]) | first | refine s_opt1 ?_ | refine s_opt0 ?_ | refine s_optq1 ?_ | refine s_optq0 ?_ | (refine s_norm ?_; try simp only [wsN, wsI, rmv, rng, X.ev, lkp, peel, cond_true, cond_false, nbeq, Nat.reduceBEq, Nat.reduceSub, Nat.reduceAdd, Nat.zero_add, Nat.sub_zero, Nat.sub_self, List.length_cons, List.length_nil, List.length_append, List.cons_append, List.nil_append, List.append_nil]) | (refine s_take fun K hK => ?_) | (refine s_cons (fun K hK => ?_) ?_) | exact s_tnil | refine s_br ?_ | refine s_done ?_ | refine s_seq fun K hK => ?_ | refine s_region ?_ | refine s_draw ?_ | refine s_tree ?_ | refine s_op fun K hK => ?_ | refine s_opq fun K hK => ?_ | refine s_ops ?_ | refine s_endq ?_ | simp only [go_sem, Int.reduceToNat, Int.reduceEq, Nat.reduceAdd, Nat.reduceBEq, Nat.reduceLeDiff, Nat.reduceLT, Int.reduceLT, Int.reduceLE, Int.reduceNeg, reduceCtorEq] | (first | (refine hK _ ?_; clear hK K) | (clear hK K; refine hK _ ?_; clear hK K) | (clear hK K; clear hK K; refine hK _ ?_; clear hK K)) | refine And.intro ?_ ?_ | refine s_call c1 ?_ | refine s_call c2 ?_ | refine s_call c3 ?_ | refine s_call c4 ?_ | refine s_call c5 ?_ | refine s_call c6 ?_ | refine s_call c7 ?_ | refine s_call c8 ?_ | refine s_call c9 ?_ | refine s_call c10 ?_ | intro hb
  all_goals simp only [go_sem, tids, A.tid, A.tid.go, List.cons_append, frzT, St.frz, A.sub, A.subL, O.sub, subT, subH, frzY, frzZ, Post, aret, evRs, RV.ev, tupA, A.Le, A.LeL, lkp, St.frzs, St.frz, A.ids, A.idsL, cond_true, cond_false, nbeq, nble, decide_true, decide_false, Nat.reduceLeDiff, Nat.reduceBEq, Nat.reduceAdd, beq_self_eq_true, true_and, and_true, true_implies, List.append_nil, List.nil_append, List.getElem?_cons_zero, List.getElem?_cons_succ, List.length_cons, List.length_nil, List.drop_zero, List.take_succ_cons, List.take_zero, and_self, ho]
  all_goals first
    | (rw [hf0 hb]; simp only [Option.getD_none, Option.isSome_none, noT, op_mk, n_mk, s_mk, kids_mk, encs, and_self])
    | (rw [hf1 hb]; simp only [Option.getD_some, Option.isSome_some, and_self])
end Go.Proofs.YtdnenindpapniaaDoor
