/- The law. -/
import Derived.Test.YtdcmdjifncpkoaaF28
import Derived.Test.YtdcmdjifncpkoaaF29
import Derived.Test.YtdcmdjifncpkoaaM3
set_option linter.unusedVariables false
set_option linter.unusedSimpArgs false
set_option maxRecDepth 20000
set_option maxHeartbeats 4000000
namespace Go.Proofs.Ytdcmdjifncpkoaa
open Go.RowKit Sym
attribute [local irreducible] awp aops aopsQ gop gopQ gopO gopOQ gopV gopT awpN awpT awpTs ACall after
theorem nodsL_cnts : ∀ ts : List Term, nodsL ts ≤ ts.length + cnts ts
  | [] => by simp [nodsL]
  | t :: ts => by
    have := nods_le t
    have := nodsL_cnts ts
    simp only [nodsL, cnts, List.length_cons]
    omega
theorem nodsL_fine : ∀ ts : List Term, (∀ t, t ∈ ts → fineT t) → nodsL ts ≤ 200 * ts.length
  | [], _ => by simp [nodsL]
  | t :: ts, h => by
    have := (h t (by simp)).2
    have := nodsL_fine ts (fun x hx => h x (by simp [hx]))
    simp only [nodsL, List.length_cons]
    omega
theorem law_Parts (ts : List Term) : Ct Try.prog 13 [.d false (.sl (encs ts))] (.d true (.bool true)) := by
  by_cases ha : ((ts.length + cnts ts : Nat) : Int) ≤ 1048576
  · have hla : lft (ts.length + cnts ts) (1048576) = 1048576 - ((ts.length + cnts ts : Nat) : Int) := if_pos ha
    have hda : decide (1048576 - ((ts.length + cnts ts : Nat) : Int) < 0) = false := decide_eq_false (by omega)
    have hsa := szTermS_ct ts 1048576 (by omega) (by omega)
    have hcm : ∀ t, t ∈ ts → t.cnt ≤ 8388608 := fun t ht => by have := cnts_mem ht; omega
    have hs := parts1_ct ts hcm
    have hi := parts2_ct ts hcm
    have hgn : nodsL (partsT ts) ≤ 60000 := by
      have h1 := nodsL_fine (partsT ts) (partsT_ok fun t ht ho => (gd_of ho (hcm t ht)).1)
      have h2 := partsT_len ts
      omega
    have hn : nodsL ts ≤ 1048576 := by have := nodsL_cnts ts; omega
    generalize partsT ts = g at *
    have hta := toTermS_own ts (by omega) (by omega)
    have hea := eqTermS_ct ts ts
    have heg := eqTermS_ct g g
    rw [eqTs_refl] at hea heg
    have hm1 := markTermS_m ts 1 (by omega) (by omega)
    have hm2 := markTermS_m g 1 (by omega) (by omega)
    have hh := heldTermS_ct g 1 (by omega) (by omega)
    have dk : decide ((1 : Int) + 3 * (nodsL ts : Int) < 0) = false := decide_eq_false (by omega)
    have dg : decide ((1 : Int) + 3 * (nodsL g : Int) < 0) = false := decide_eq_false (by omega)
    rw [hla] at hsa
    clear hla ha hcm hgn hn
    generalize ((ts.length + cnts ts : Nat) : Int) = q at *
    generalize encs (markTs 1 g) = mg at *
    generalize encs (markTs 1 ts) = mt at *
    generalize encs g = eg at *
    generalize encs ts = et at *
    generalize (1 : Int) + 3 * (nodsL g : Int) = kg at *
    generalize (1 : Int) + 3 * (nodsL ts : Int) = kt at *
    refine ok13.ct mo Try.func13 (by simp) rfl fun hok => ?_
    unfold ac13
    repeat' first | assumption | first | refine s_opt1 ?_ | refine s_opt0 ?_ | refine s_optq1 ?_ | refine s_optq0 ?_ | (refine s_norm ?_; try simp only [wsN, wsI, rmv, rng, X.ev, lkp, peel, cond_true, cond_false, nbeq, Nat.reduceBEq, Nat.reduceSub, Nat.reduceAdd, Nat.zero_add, Nat.sub_zero, Nat.sub_self, List.length_cons, List.length_nil, List.length_append, List.cons_append, List.nil_append, List.append_nil]) | (refine s_take fun K hK => ?_) | (refine s_cons (fun K hK => ?_) ?_) | exact s_tnil | refine s_br ?_ | refine s_done ?_ | refine s_seq fun K hK => ?_ | refine s_region ?_ | refine s_draw ?_ | refine s_tree ?_ | refine s_op fun K hK => ?_ | refine s_opq fun K hK => ?_ | refine s_ops ?_ | refine s_endq ?_ | simp only [go_sem, Int.reduceToNat, Int.reduceEq, Nat.reduceAdd, Nat.reduceBEq, Nat.reduceLeDiff, Nat.reduceLT, Int.reduceLT, Int.reduceLE, Int.reduceNeg, reduceCtorEq, Bool.not_true, bne_self_eq_false, decide_true, hda, dk, dg] | (first | (refine hK _ ?_; clear hK K) | (clear hK K; refine hK _ ?_; clear hK K) | (clear hK K; clear hK K; refine hK _ ?_; clear hK K)) | refine And.intro ?_ ?_ | refine s_call hsa ?_ | refine s_call hta ?_ | refine s_call hs ?_ | refine s_call hi ?_ | refine s_call hea ?_ | refine s_call heg ?_ | refine s_mark rfl rfl hm1 ?_ | refine s_mark rfl rfl hm2 ?_ | refine s_call hh ?_
    all_goals first | (simp [go_sem, tids, A.tid, A.tid.go, List.cons_append, frzT, St.frz, A.sub, A.subL, O.sub, subT, subH, frzY, frzZ, Post, aret, evRs, RV.ev, tupA, A.Le, A.LeL, lkp, St.frzs, St.frz, A.ids, A.idsL, cond_true, cond_false, nbeq, nble, decide_true, decide_false, Nat.reduceLeDiff, Nat.reduceBEq, Nat.reduceAdd, beq_self_eq_true, true_and, and_true, true_implies, List.append_nil, List.nil_append, List.getElem?_cons_zero, List.getElem?_cons_succ, List.length_cons, List.length_nil, List.drop_zero, List.take_succ_cons, List.take_zero, and_self]; done) | trivial | (simp [A.LeL]; done) | skip
  · have hla : lft (ts.length + cnts ts) (1048576) = -1 := if_neg ha
    have hsa := szTermS_ct ts 1048576 (by omega) (by omega)
    rw [hla] at hsa
    refine ok13.ct mo Try.func13 (by simp) rfl fun hok => ?_
    unfold ac13
    repeat' first | assumption | first | refine s_opt1 ?_ | refine s_opt0 ?_ | refine s_optq1 ?_ | refine s_optq0 ?_ | (refine s_norm ?_; try simp only [wsN, wsI, rmv, rng, X.ev, lkp, peel, cond_true, cond_false, nbeq, Nat.reduceBEq, Nat.reduceSub, Nat.reduceAdd, Nat.zero_add, Nat.sub_zero, Nat.sub_self, List.length_cons, List.length_nil, List.length_append, List.cons_append, List.nil_append, List.append_nil]) | (refine s_take fun K hK => ?_) | (refine s_cons (fun K hK => ?_) ?_) | exact s_tnil | refine s_br ?_ | refine s_done ?_ | refine s_seq fun K hK => ?_ | refine s_region ?_ | refine s_draw ?_ | refine s_tree ?_ | refine s_op fun K hK => ?_ | refine s_opq fun K hK => ?_ | refine s_ops ?_ | refine s_endq ?_ | simp only [go_sem, Int.reduceToNat, Int.reduceEq, Nat.reduceAdd, Nat.reduceBEq, Nat.reduceLeDiff, Nat.reduceLT, Int.reduceLT, Int.reduceLE, Int.reduceNeg, reduceCtorEq, show decide ((-1 : Int) < 0) = true from rfl] | (first | (refine hK _ ?_; clear hK K) | (clear hK K; refine hK _ ?_; clear hK K) | (clear hK K; clear hK K; refine hK _ ?_; clear hK K)) | refine And.intro ?_ ?_ | refine s_call hsa ?_
    all_goals first | (simp [go_sem, tids, A.tid, A.tid.go, List.cons_append, frzT, St.frz, A.sub, A.subL, O.sub, subT, subH, frzY, frzZ, Post, aret, evRs, RV.ev, tupA, A.Le, A.LeL, lkp, St.frzs, St.frz, A.ids, A.idsL, cond_true, cond_false, nbeq, nble, decide_true, decide_false, Nat.reduceLeDiff, Nat.reduceBEq, Nat.reduceAdd, beq_self_eq_true, true_and, and_true, true_implies, List.append_nil, List.nil_append, List.getElem?_cons_zero, List.getElem?_cons_succ, List.length_cons, List.length_nil, List.drop_zero, List.take_succ_cons, List.take_zero, and_self]; done) | trivial
end Go.Proofs.Ytdcmdjifncpkoaa
