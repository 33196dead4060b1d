/- What a greeting holds. -/
import Derived.Test.YtdcmdjifncpkoaaF12
set_option linter.unusedVariables false
set_option maxRecDepth 20000
set_option maxHeartbeats 4000000
set_option linter.unusedSimpArgs false
namespace Go.Proofs.Ytdcmdjifncpkoaa
open Go.RowKit Sym
attribute [local irreducible] awp aops aopsQ gop gopQ gopV gopT awpN awpT awpTs ACall after

/-- The second kid of a pair whose first one is a text. -/
def namedT (t : Term) (s : ByteArray) : Option Term := match t.kids with
  | [x, y] => if okT t = true ∧ t.op = 3 ∧ eqT x (textT s) = true then some y else none
  | _ => none
theorem namedT_mem {t : Term} {s : ByteArray} {y : Term} (h : namedT t s = some y) : y ∈ t.kids := by
  unfold namedT at h
  split at h
  · rename_i x y' hk
    split at h
    · simp only [Option.some.injEq] at h; subst h; rw [hk]; simp
    · cases h
  · cases h
theorem namedT_no {t : Term} {s : ByteArray} (h : okT t = false ∨ t.op ≠ 3) : namedT t s = none := by
  unfold namedT
  split
  · rw [if_neg]
    rintro ⟨h1, h2, h3⟩
    rcases h with h | h
    · rw [h1] at h; cases h
    · exact h h2
  · rfl
theorem namedT_two {t : Term} {s : ByteArray} {x y : Term} (h : okT t = true) (h3 : t.op = 3) (hk : t.kids = [x, y]) : namedT t s = bif eqT x (textT s) then some y else none := by
  unfold namedT
  rw [hk]
  cases he : eqT x (textT s) <;> simp [h, h3, he]
def helloOfT (t : Term) : Option Term := match namedT t helloS with
  | some y => if y.op = 4 then some y else none
  | none => none

theorem named_ct (t : Term) (s : ByteArray) : Ct Try.prog 58 [t.v, .d false (.str s)] (optV (namedT t s)) := by
  have hc := termOk1_ct t
  refine ok58.ct mo Try.func58 (by simp) rfl fun hok => ?_
  unfold ac58
  cases h1 : okT t with
  | false =>
    rw [namedT_no (.inl h1)]
    rw [h1] at hc
    simp only [optV, Option.getD_none, Option.isSome_none, noT, Term.v_eq, op_mk, n_mk, s_mk, kids_mk, encs] at *
    repeat' first | assumption | first | (refine s_norm ?_; try simp only [wsN, wsI, rmv, rng, X.ev, lkp, peel, cond_true, cond_false, nbeq, Nat.reduceBEq, Nat.reduceSub, Nat.reduceAdd, Nat.zero_add, Nat.sub_zero, Nat.sub_self, List.length_cons, List.length_nil, List.length_append, List.cons_append, List.nil_append, List.append_nil]) | (refine s_take fun K hK => ?_) | (refine s_cons (fun K hK => ?_) ?_) | exact s_tnil | refine s_br ?_ | refine s_done ?_ | refine s_seq fun K hK => ?_ | refine s_region ?_ | refine s_draw ?_ | refine s_tree ?_ | refine s_op fun K hK => ?_ | refine s_opq fun K hK => ?_ | refine s_ops ?_ | refine s_endq ?_ | simp only [go_sem, Int.reduceToNat, Int.reduceEq, Nat.reduceAdd, Nat.reduceBEq, Nat.reduceLeDiff, Nat.reduceLT, Int.reduceLT, Int.reduceLE, Int.reduceNeg, reduceCtorEq] | (first | (refine hK _ ?_; clear hK K) | (clear hK K; refine hK _ ?_; clear hK K) | (clear hK K; clear hK K; refine hK _ ?_; clear hK K)) | refine And.intro ?_ ?_ | refine s_call hc ?_ | refine s_callq hc rfl ?_
    all_goals first | (simp [go_sem, tids, A.tid, A.tid.go, List.cons_append, frzT, St.frz, A.sub, A.subL, O.sub, subT, subH, frzY, frzZ, Post, aret, evRs, RV.ev, tupA, A.Le, A.LeL, lkp, St.frzs, St.frz, A.ids, A.idsL, cond_true, cond_false, nbeq, nble, decide_true, decide_false, Nat.reduceLeDiff, Nat.reduceBEq, Nat.reduceAdd, beq_self_eq_true, true_and, and_true, true_implies, List.append_nil, List.nil_append, List.getElem?_cons_zero, List.getElem?_cons_succ, List.length_cons, List.length_nil, List.drop_zero, List.take_succ_cons, List.take_zero, and_self]; done) | (simp [A.LeL]; done) | rfl | (simp [op_mk, n_mk, s_mk, kids_mk, encs, A.Le, A.LeL]; done) | skip
  | true =>
    rw [h1] at hc
    by_cases h3 : t.op = 3
    · obtain ⟨x, y, hk⟩ := two_kids (ok_right h1) (by rw [h3]; rfl)
      have hd : decide (t.op = 3) = true := decide_eq_true h3
      rw [namedT_two h1 h3 hk]
      have hp := text1_ct s
      have hq := same1_ct x (textT s)
      cases he : eqT x (textT s) with
      | true =>
        rw [he] at hq
        simp only [optV, cond_true, Option.getD_some, Option.isSome_some, Term.v_eq, op_mk, n_mk, s_mk, kids_mk, hk, encs, Term.enc_eq] at *
        generalize textT s = g at *
        repeat' first | assumption | first | (refine s_norm ?_; try simp only [wsN, wsI, rmv, rng, X.ev, lkp, peel, cond_true, cond_false, nbeq, Nat.reduceBEq, Nat.reduceSub, Nat.reduceAdd, Nat.zero_add, Nat.sub_zero, Nat.sub_self, List.length_cons, List.length_nil, List.length_append, List.cons_append, List.nil_append, List.append_nil]) | (refine s_take fun K hK => ?_) | (refine s_cons (fun K hK => ?_) ?_) | exact s_tnil | refine s_br ?_ | refine s_done ?_ | refine s_seq fun K hK => ?_ | refine s_region ?_ | refine s_draw ?_ | refine s_tree ?_ | refine s_op fun K hK => ?_ | refine s_opq fun K hK => ?_ | refine s_ops ?_ | refine s_endq ?_ | simp only [go_sem, Int.reduceToNat, Int.reduceEq, Nat.reduceAdd, Nat.reduceBEq, Nat.reduceLeDiff, Nat.reduceLT, Int.reduceLT, Int.reduceLE, Int.reduceNeg, reduceCtorEq, hd, hk, encs, Term.enc_eq, List.getD_cons_zero] | (first | (refine hK _ ?_; clear hK K) | (clear hK K; refine hK _ ?_; clear hK K) | (clear hK K; clear hK K; refine hK _ ?_; clear hK K)) | refine And.intro ?_ ?_ | refine s_call hc ?_ | refine s_callq hc rfl ?_ | refine s_call hp ?_ | refine s_call hq ?_
        all_goals first | (simp [go_sem, tids, A.tid, A.tid.go, List.cons_append, frzT, St.frz, A.sub, A.subL, O.sub, subT, subH, frzY, frzZ, Post, aret, evRs, RV.ev, tupA, A.Le, A.LeL, lkp, St.frzs, St.frz, A.ids, A.idsL, cond_true, cond_false, nbeq, nble, decide_true, decide_false, Nat.reduceLeDiff, Nat.reduceBEq, Nat.reduceAdd, beq_self_eq_true, true_and, and_true, true_implies, List.append_nil, List.nil_append, List.getElem?_cons_zero, List.getElem?_cons_succ, List.length_cons, List.length_nil, List.drop_zero, List.take_succ_cons, List.take_zero, and_self]; done) | (simp [A.LeL]; done) | rfl | (simp [op_mk, n_mk, s_mk, kids_mk, encs, A.Le, A.LeL]; done) | skip
      | false =>
        rw [he] at hq
        simp only [optV, cond_false, Option.getD_none, Option.isSome_none, noT, Term.v_eq, op_mk, n_mk, s_mk, kids_mk, hk, encs, Term.enc_eq] at *
        generalize textT s = g at *
        repeat' first | assumption | first | (refine s_norm ?_; try simp only [wsN, wsI, rmv, rng, X.ev, lkp, peel, cond_true, cond_false, nbeq, Nat.reduceBEq, Nat.reduceSub, Nat.reduceAdd, Nat.zero_add, Nat.sub_zero, Nat.sub_self, List.length_cons, List.length_nil, List.length_append, List.cons_append, List.nil_append, List.append_nil]) | (refine s_take fun K hK => ?_) | (refine s_cons (fun K hK => ?_) ?_) | exact s_tnil | refine s_br ?_ | refine s_done ?_ | refine s_seq fun K hK => ?_ | refine s_region ?_ | refine s_draw ?_ | refine s_tree ?_ | refine s_op fun K hK => ?_ | refine s_opq fun K hK => ?_ | refine s_ops ?_ | refine s_endq ?_ | simp only [go_sem, Int.reduceToNat, Int.reduceEq, Nat.reduceAdd, Nat.reduceBEq, Nat.reduceLeDiff, Nat.reduceLT, Int.reduceLT, Int.reduceLE, Int.reduceNeg, reduceCtorEq, hd, hk, encs, Term.enc_eq, List.getD_cons_zero] | (first | (refine hK _ ?_; clear hK K) | (clear hK K; refine hK _ ?_; clear hK K) | (clear hK K; clear hK K; refine hK _ ?_; clear hK K)) | refine And.intro ?_ ?_ | refine s_call hc ?_ | refine s_callq hc rfl ?_ | refine s_call hp ?_ | refine s_call hq ?_
        all_goals first | (simp [go_sem, tids, A.tid, A.tid.go, List.cons_append, frzT, St.frz, A.sub, A.subL, O.sub, subT, subH, frzY, frzZ, Post, aret, evRs, RV.ev, tupA, A.Le, A.LeL, lkp, St.frzs, St.frz, A.ids, A.idsL, cond_true, cond_false, nbeq, nble, decide_true, decide_false, Nat.reduceLeDiff, Nat.reduceBEq, Nat.reduceAdd, beq_self_eq_true, true_and, and_true, true_implies, List.append_nil, List.nil_append, List.getElem?_cons_zero, List.getElem?_cons_succ, List.length_cons, List.length_nil, List.drop_zero, List.take_succ_cons, List.take_zero, and_self]; done) | (simp [A.LeL]; done) | rfl | (simp [op_mk, n_mk, s_mk, kids_mk, encs, A.Le, A.LeL]; done) | skip
    · rw [namedT_no (.inr h3)]
      have hd : decide (t.op = 3) = false := decide_eq_false h3
      simp only [optV, Option.getD_none, Option.isSome_none, noT, Term.v_eq, op_mk, n_mk, s_mk, kids_mk, encs] at *
      repeat' first | assumption | first | (refine s_norm ?_; try simp only [wsN, wsI, rmv, rng, X.ev, lkp, peel, cond_true, cond_false, nbeq, Nat.reduceBEq, Nat.reduceSub, Nat.reduceAdd, Nat.zero_add, Nat.sub_zero, Nat.sub_self, List.length_cons, List.length_nil, List.length_append, List.cons_append, List.nil_append, List.append_nil]) | (refine s_take fun K hK => ?_) | (refine s_cons (fun K hK => ?_) ?_) | exact s_tnil | refine s_br ?_ | refine s_done ?_ | refine s_seq fun K hK => ?_ | refine s_region ?_ | refine s_draw ?_ | refine s_tree ?_ | refine s_op fun K hK => ?_ | refine s_opq fun K hK => ?_ | refine s_ops ?_ | refine s_endq ?_ | simp only [go_sem, Int.reduceToNat, Int.reduceEq, Nat.reduceAdd, Nat.reduceBEq, Nat.reduceLeDiff, Nat.reduceLT, Int.reduceLT, Int.reduceLE, Int.reduceNeg, reduceCtorEq, hd] | (first | (refine hK _ ?_; clear hK K) | (clear hK K; refine hK _ ?_; clear hK K) | (clear hK K; clear hK K; refine hK _ ?_; clear hK K)) | refine And.intro ?_ ?_ | refine s_call hc ?_ | refine s_callq hc rfl ?_
      all_goals first | (simp [go_sem, tids, A.tid, A.tid.go, List.cons_append, frzT, St.frz, A.sub, A.subL, O.sub, subT, subH, frzY, frzZ, Post, aret, evRs, RV.ev, tupA, A.Le, A.LeL, lkp, St.frzs, St.frz, A.ids, A.idsL, cond_true, cond_false, nbeq, nble, decide_true, decide_false, Nat.reduceLeDiff, Nat.reduceBEq, Nat.reduceAdd, beq_self_eq_true, true_and, and_true, true_implies, List.append_nil, List.nil_append, List.getElem?_cons_zero, List.getElem?_cons_succ, List.length_cons, List.length_nil, List.drop_zero, List.take_succ_cons, List.take_zero, and_self]; done) | (simp [A.LeL]; done) | rfl | (simp [op_mk, n_mk, s_mk, kids_mk, encs, A.Le, A.LeL]; done) | skip
theorem helloOf1_ct (t : Term) (ht : t.cnt ≤ 4194000) : Ct Try.prog 33 [t.v] (optV (helloOfT t)) := by
  have hn := named_ct t helloS
  unfold helloS at hn
  refine ok33.ct mo Try.func33 (by simp) rfl fun hok => ?_
  unfold ac33
  unfold helloOfT
  unfold helloS
  cases h1 : namedT t ⟨#[104, 101, 108, 108, 111]⟩ with
  | none =>
    rw [h1] at hn
    simp only [optV, Option.getD_none, Option.isSome_none, noT, Term.v_eq, op_mk, n_mk, s_mk, kids_mk, encs] at *
    repeat' first | assumption | first | (refine s_norm ?_; try simp only [wsN, wsI, rmv, rng, X.ev, lkp, peel, cond_true, cond_false, nbeq, Nat.reduceBEq, Nat.reduceSub, Nat.reduceAdd, Nat.zero_add, Nat.sub_zero, Nat.sub_self, List.length_cons, List.length_nil, List.length_append, List.cons_append, List.nil_append, List.append_nil]) | (refine s_take fun K hK => ?_) | (refine s_cons (fun K hK => ?_) ?_) | exact s_tnil | refine s_br ?_ | refine s_done ?_ | refine s_seq fun K hK => ?_ | refine s_region ?_ | refine s_draw ?_ | refine s_tree ?_ | refine s_op fun K hK => ?_ | refine s_opq fun K hK => ?_ | refine s_ops ?_ | refine s_endq ?_ | simp only [go_sem, Int.reduceToNat, Int.reduceEq, Nat.reduceAdd, Nat.reduceBEq, Nat.reduceLeDiff, Nat.reduceLT, Int.reduceLT, Int.reduceLE, Int.reduceNeg, reduceCtorEq] | (first | (refine hK _ ?_; clear hK K) | (clear hK K; refine hK _ ?_; clear hK K) | (clear hK K; clear hK K; refine hK _ ?_; clear hK K)) | refine And.intro ?_ ?_ | refine s_call hn ?_ | refine s_callq hn rfl ?_
    all_goals first | (simp [go_sem, tids, A.tid, A.tid.go, List.cons_append, frzT, St.frz, A.sub, A.subL, O.sub, subT, subH, frzY, frzZ, Post, aret, evRs, RV.ev, tupA, A.Le, A.LeL, lkp, St.frzs, St.frz, A.ids, A.idsL, cond_true, cond_false, nbeq, nble, decide_true, decide_false, Nat.reduceLeDiff, Nat.reduceBEq, Nat.reduceAdd, beq_self_eq_true, true_and, and_true, true_implies, List.append_nil, List.nil_append, List.getElem?_cons_zero, List.getElem?_cons_succ, List.length_cons, List.length_nil, List.drop_zero, List.take_succ_cons, List.take_zero, and_self]; done) | (simp [A.LeL]; done) | rfl | (simp [op_mk, n_mk, s_mk, kids_mk, encs, A.Le, A.LeL]; done) | skip
  | some y =>
    rw [h1] at hn
    have hcp := copy_ct y (by have := cnt_mem (namedT_mem h1); omega)
    by_cases h4 : y.op = 4
    · have hd : decide (y.op = 4) = true := decide_eq_true h4
      simp only [if_pos h4, optV, Option.getD_some, Option.isSome_some, Term.v_eq] at *
      repeat' first | assumption | first | (refine s_norm ?_; try simp only [wsN, wsI, rmv, rng, X.ev, lkp, peel, cond_true, cond_false, nbeq, Nat.reduceBEq, Nat.reduceSub, Nat.reduceAdd, Nat.zero_add, Nat.sub_zero, Nat.sub_self, List.length_cons, List.length_nil, List.length_append, List.cons_append, List.nil_append, List.append_nil]) | (refine s_take fun K hK => ?_) | (refine s_cons (fun K hK => ?_) ?_) | exact s_tnil | refine s_br ?_ | refine s_done ?_ | refine s_seq fun K hK => ?_ | refine s_region ?_ | refine s_draw ?_ | refine s_tree ?_ | refine s_op fun K hK => ?_ | refine s_opq fun K hK => ?_ | refine s_ops ?_ | refine s_endq ?_ | simp only [go_sem, Int.reduceToNat, Int.reduceEq, Nat.reduceAdd, Nat.reduceBEq, Nat.reduceLeDiff, Nat.reduceLT, Int.reduceLT, Int.reduceLE, Int.reduceNeg, reduceCtorEq, hd] | (first | (refine hK _ ?_; clear hK K) | (clear hK K; refine hK _ ?_; clear hK K) | (clear hK K; clear hK K; refine hK _ ?_; clear hK K)) | refine And.intro ?_ ?_ | refine s_call hn ?_ | refine s_call hcp ?_
      all_goals first | (simp [go_sem, tids, A.tid, A.tid.go, List.cons_append, frzT, St.frz, A.sub, A.subL, O.sub, subT, subH, frzY, frzZ, Post, aret, evRs, RV.ev, tupA, A.Le, A.LeL, lkp, St.frzs, St.frz, A.ids, A.idsL, cond_true, cond_false, nbeq, nble, decide_true, decide_false, Nat.reduceLeDiff, Nat.reduceBEq, Nat.reduceAdd, beq_self_eq_true, true_and, and_true, true_implies, List.append_nil, List.nil_append, List.getElem?_cons_zero, List.getElem?_cons_succ, List.length_cons, List.length_nil, List.drop_zero, List.take_succ_cons, List.take_zero, and_self]; done) | (simp [A.LeL]; done) | rfl | (simp [op_mk, n_mk, s_mk, kids_mk, encs, A.Le, A.LeL]; done) | skip
    · have hd : decide (y.op = 4) = false := decide_eq_false h4
      simp only [if_neg h4, optV, Option.getD_some, Option.isSome_some, Option.getD_none, Option.isSome_none, noT, Term.v_eq, op_mk, n_mk, s_mk, kids_mk, encs] at *
      repeat' first | assumption | first | (refine s_norm ?_; try simp only [wsN, wsI, rmv, rng, X.ev, lkp, peel, cond_true, cond_false, nbeq, Nat.reduceBEq, Nat.reduceSub, Nat.reduceAdd, Nat.zero_add, Nat.sub_zero, Nat.sub_self, List.length_cons, List.length_nil, List.length_append, List.cons_append, List.nil_append, List.append_nil]) | (refine s_take fun K hK => ?_) | (refine s_cons (fun K hK => ?_) ?_) | exact s_tnil | refine s_br ?_ | refine s_done ?_ | refine s_seq fun K hK => ?_ | refine s_region ?_ | refine s_draw ?_ | refine s_tree ?_ | refine s_op fun K hK => ?_ | refine s_opq fun K hK => ?_ | refine s_ops ?_ | refine s_endq ?_ | simp only [go_sem, Int.reduceToNat, Int.reduceEq, Nat.reduceAdd, Nat.reduceBEq, Nat.reduceLeDiff, Nat.reduceLT, Int.reduceLT, Int.reduceLE, Int.reduceNeg, reduceCtorEq, hd] | (first | (refine hK _ ?_; clear hK K) | (clear hK K; refine hK _ ?_; clear hK K) | (clear hK K; clear hK K; refine hK _ ?_; clear hK K)) | refine And.intro ?_ ?_ | refine s_call hn ?_ | refine s_callq hn rfl ?_
      all_goals first | (simp [go_sem, tids, A.tid, A.tid.go, List.cons_append, frzT, St.frz, A.sub, A.subL, O.sub, subT, subH, frzY, frzZ, Post, aret, evRs, RV.ev, tupA, A.Le, A.LeL, lkp, St.frzs, St.frz, A.ids, A.idsL, cond_true, cond_false, nbeq, nble, decide_true, decide_false, Nat.reduceLeDiff, Nat.reduceBEq, Nat.reduceAdd, beq_self_eq_true, true_and, and_true, true_implies, List.append_nil, List.nil_append, List.getElem?_cons_zero, List.getElem?_cons_succ, List.length_cons, List.length_nil, List.drop_zero, List.take_succ_cons, List.take_zero, and_self]; done) | (simp [A.LeL]; done) | rfl | (simp [op_mk, n_mk, s_mk, kids_mk, encs, A.Le, A.LeL]; done) | skip
/-- The kids of a pair. -/
def twoT (t : Term) : Option (Term × Term) := match t.kids with
  | [x, y] => if t.op = 3 then some (x, y) else none
  | _ => none
@[reducible] def two2V (o : Option (Term × Term)) : A := .tup [((o.map (·.1)).getD noT).v, ((o.map (·.2)).getD noT).v, .d true (.bool o.isSome)]
theorem twoOf_ct (t : Term) : Ct Try.prog 59 [t.v] (two2V (twoT t)) := by
  have hl0 := encs_length t.kids
  refine ok59.ct mo Try.func59 (by simp) rfl fun hok => ?_
  unfold ac59
  by_cases h3 : t.op = 3
  · have hd : decide (t.op = 3) = true := decide_eq_true h3
    by_cases hl : ∃ x y, t.kids = [x, y]
    · obtain ⟨x, y, hk⟩ := hl
      have ht : twoT t = some (x, y) := by unfold twoT; rw [hk]; simp [h3]
      simp only [ht, two2V, Option.map_some, Option.getD_some, Option.isSome_some, Term.v_eq, hk, encs, Term.enc_eq] at *
      repeat' first | assumption | first | (refine s_norm ?_; try simp only [wsN, wsI, rmv, rng, X.ev, lkp, peel, cond_true, cond_false, nbeq, Nat.reduceBEq, Nat.reduceSub, Nat.reduceAdd, Nat.zero_add, Nat.sub_zero, Nat.sub_self, List.length_cons, List.length_nil, List.length_append, List.cons_append, List.nil_append, List.append_nil]) | (refine s_take fun K hK => ?_) | (refine s_cons (fun K hK => ?_) ?_) | exact s_tnil | refine s_br ?_ | refine s_done ?_ | refine s_seq fun K hK => ?_ | refine s_region ?_ | refine s_draw ?_ | refine s_tree ?_ | refine s_op fun K hK => ?_ | refine s_opq fun K hK => ?_ | refine s_ops ?_ | refine s_endq ?_ | simp only [go_sem, Int.reduceToNat, Int.reduceEq, Nat.reduceAdd, Nat.reduceBEq, Nat.reduceLeDiff, Nat.reduceLT, Int.reduceLT, Int.reduceLE, Int.reduceNeg, reduceCtorEq, hd, hk, encs, Term.enc_eq, List.getD_cons_zero] | (first | (refine hK _ ?_; clear hK K) | (clear hK K; refine hK _ ?_; clear hK K) | (clear hK K; clear hK K; refine hK _ ?_; clear hK K)) | refine And.intro ?_ ?_
      all_goals first | (simp [go_sem, tids, A.tid, A.tid.go, List.cons_append, frzT, St.frz, A.sub, A.subL, O.sub, subT, subH, frzY, frzZ, Post, aret, evRs, RV.ev, tupA, A.Le, A.LeL, lkp, St.frzs, St.frz, A.ids, A.idsL, cond_true, cond_false, nbeq, nble, decide_true, decide_false, Nat.reduceLeDiff, Nat.reduceBEq, Nat.reduceAdd, beq_self_eq_true, true_and, and_true, true_implies, List.append_nil, List.nil_append, List.getElem?_cons_zero, List.getElem?_cons_succ, List.length_cons, List.length_nil, List.drop_zero, List.take_succ_cons, List.take_zero, and_self]; done) | (simp [A.LeL]; done) | rfl | (simp [op_mk, n_mk, s_mk, kids_mk, encs, A.Le, A.LeL]; done) | skip
    · have hne : t.kids.length ≠ 2 := by
        intro h2
        match hk : t.kids, h2 with
        | [x, y], _ => exact hl ⟨x, y, hk⟩
      have ht : twoT t = none := by
        unfold twoT
        split
        · rename_i x y hk; exact absurd ⟨x, y, hk⟩ hl
        · rfl
      have hd2 : decide ((t.kids.length : Int) = 2) = false := decide_eq_false (by omega)
      simp only [ht, two2V, Option.map_none, Option.getD_none, Option.isSome_none, noT, Term.v_eq, op_mk, n_mk, s_mk, kids_mk, encs] at *
      repeat' first | assumption | first | (refine s_norm ?_; try simp only [wsN, wsI, rmv, rng, X.ev, lkp, peel, cond_true, cond_false, nbeq, Nat.reduceBEq, Nat.reduceSub, Nat.reduceAdd, Nat.zero_add, Nat.sub_zero, Nat.sub_self, List.length_cons, List.length_nil, List.length_append, List.cons_append, List.nil_append, List.append_nil]) | (refine s_take fun K hK => ?_) | (refine s_cons (fun K hK => ?_) ?_) | exact s_tnil | refine s_br ?_ | refine s_done ?_ | refine s_seq fun K hK => ?_ | refine s_region ?_ | refine s_draw ?_ | refine s_tree ?_ | refine s_op fun K hK => ?_ | refine s_opq fun K hK => ?_ | refine s_ops ?_ | refine s_endq ?_ | simp only [go_sem, Int.reduceToNat, Int.reduceEq, Nat.reduceAdd, Nat.reduceBEq, Nat.reduceLeDiff, Nat.reduceLT, Int.reduceLT, Int.reduceLE, Int.reduceNeg, reduceCtorEq, hd, hl0, hd2] | (first | (refine hK _ ?_; clear hK K) | (clear hK K; refine hK _ ?_; clear hK K) | (clear hK K; clear hK K; refine hK _ ?_; clear hK K)) | refine And.intro ?_ ?_
      all_goals first | (simp [go_sem, tids, A.tid, A.tid.go, List.cons_append, frzT, St.frz, A.sub, A.subL, O.sub, subT, subH, frzY, frzZ, Post, aret, evRs, RV.ev, tupA, A.Le, A.LeL, lkp, St.frzs, St.frz, A.ids, A.idsL, cond_true, cond_false, nbeq, nble, decide_true, decide_false, Nat.reduceLeDiff, Nat.reduceBEq, Nat.reduceAdd, beq_self_eq_true, true_and, and_true, true_implies, List.append_nil, List.nil_append, List.getElem?_cons_zero, List.getElem?_cons_succ, List.length_cons, List.length_nil, List.drop_zero, List.take_succ_cons, List.take_zero, and_self]; done) | (simp [A.LeL]; done) | rfl | (simp [op_mk, n_mk, s_mk, kids_mk, encs, A.Le, A.LeL]; done) | skip
  · have hd : decide (t.op = 3) = false := decide_eq_false h3
    have ht : twoT t = none := by
      unfold twoT
      split
      · rw [if_neg h3]
      · rfl
    simp only [ht, two2V, Option.map_none, Option.getD_none, Option.isSome_none, noT, Term.v_eq, op_mk, n_mk, s_mk, kids_mk, encs] at *
    repeat' first | assumption | first | (refine s_norm ?_; try simp only [wsN, wsI, rmv, rng, X.ev, lkp, peel, cond_true, cond_false, nbeq, Nat.reduceBEq, Nat.reduceSub, Nat.reduceAdd, Nat.zero_add, Nat.sub_zero, Nat.sub_self, List.length_cons, List.length_nil, List.length_append, List.cons_append, List.nil_append, List.append_nil]) | (refine s_take fun K hK => ?_) | (refine s_cons (fun K hK => ?_) ?_) | exact s_tnil | refine s_br ?_ | refine s_done ?_ | refine s_seq fun K hK => ?_ | refine s_region ?_ | refine s_draw ?_ | refine s_tree ?_ | refine s_op fun K hK => ?_ | refine s_opq fun K hK => ?_ | refine s_ops ?_ | refine s_endq ?_ | simp only [go_sem, Int.reduceToNat, Int.reduceEq, Nat.reduceAdd, Nat.reduceBEq, Nat.reduceLeDiff, Nat.reduceLT, Int.reduceLT, Int.reduceLE, Int.reduceNeg, reduceCtorEq, hd] | (first | (refine hK _ ?_; clear hK K) | (clear hK K; refine hK _ ?_; clear hK K) | (clear hK K; clear hK K; refine hK _ ?_; clear hK K)) | refine And.intro ?_ ?_
    all_goals first | (simp [go_sem, tids, A.tid, A.tid.go, List.cons_append, frzT, St.frz, A.sub, A.subL, O.sub, subT, subH, frzY, frzZ, Post, aret, evRs, RV.ev, tupA, A.Le, A.LeL, lkp, St.frzs, St.frz, A.ids, A.idsL, cond_true, cond_false, nbeq, nble, decide_true, decide_false, Nat.reduceLeDiff, Nat.reduceBEq, Nat.reduceAdd, beq_self_eq_true, true_and, and_true, true_implies, List.append_nil, List.nil_append, List.getElem?_cons_zero, List.getElem?_cons_succ, List.length_cons, List.length_nil, List.drop_zero, List.take_succ_cons, List.take_zero, and_self]; done) | (simp [A.LeL]; done) | rfl | (simp [op_mk, n_mk, s_mk, kids_mk, encs, A.Le, A.LeL]; done) | skip
theorem helloOf2_ct (t : Term) (ht : t.cnt ≤ 4194000) : Ct Try.prog 34 [t.v] (optW (helloOfT t)) := by
  have hn := twoOf_ct t
  have hct := termOk2_ct t
  have hp := text2_ct helloS
  refine ok34.ct mo Try.func34 (by simp) rfl fun hok => ?_
  unfold ac34
  cases h2 : twoT t with
  | none =>
    have hnone : helloOfT t = none := by
      unfold helloOfT
      rw [show namedT t helloS = none from ?_]
      cases hokt : okT t with
      | false => exact namedT_no (.inl hokt)
      | true =>
        by_cases h3 : t.op = 3
        · obtain ⟨x, y, hk⟩ := two_kids (ok_right hokt) (by rw [h3]; rfl)
          unfold twoT at h2
          rw [hk] at h2
          simp [h3] at h2
        · exact namedT_no (.inr h3)
    rw [h2] at hn
    simp only [hnone, two2V, Option.map_none, optW, Option.getD_none, Option.isSome_none, noT, Term.v_eq, op_mk, n_mk, s_mk, kids_mk, encs] at *
    repeat' first | assumption | first | (refine s_norm ?_; try simp only [wsN, wsI, rmv, rng, X.ev, lkp, peel, cond_true, cond_false, nbeq, Nat.reduceBEq, Nat.reduceSub, Nat.reduceAdd, Nat.zero_add, Nat.sub_zero, Nat.sub_self, List.length_cons, List.length_nil, List.length_append, List.cons_append, List.nil_append, List.append_nil]) | (refine s_take fun K hK => ?_) | (refine s_cons (fun K hK => ?_) ?_) | exact s_tnil | refine s_br ?_ | refine s_done ?_ | refine s_seq fun K hK => ?_ | refine s_region ?_ | refine s_draw ?_ | refine s_tree ?_ | refine s_op fun K hK => ?_ | refine s_opq fun K hK => ?_ | refine s_ops ?_ | refine s_endq ?_ | simp only [go_sem, Int.reduceToNat, Int.reduceEq, Nat.reduceAdd, Nat.reduceBEq, Nat.reduceLeDiff, Nat.reduceLT, Int.reduceLT, Int.reduceLE, Int.reduceNeg, reduceCtorEq] | (first | (refine hK _ ?_; clear hK K) | (clear hK K; refine hK _ ?_; clear hK K) | (clear hK K; clear hK K; refine hK _ ?_; clear hK K)) | refine And.intro ?_ ?_ | refine s_call hn ?_
    all_goals first | (simp [go_sem, tids, A.tid, A.tid.go, List.cons_append, frzT, St.frz, A.sub, A.subL, O.sub, subT, subH, frzY, frzZ, Post, aret, evRs, RV.ev, tupA, A.Le, A.LeL, lkp, St.frzs, St.frz, A.ids, A.idsL, cond_true, cond_false, nbeq, nble, decide_true, decide_false, Nat.reduceLeDiff, Nat.reduceBEq, Nat.reduceAdd, beq_self_eq_true, true_and, and_true, true_implies, List.append_nil, List.nil_append, List.getElem?_cons_zero, List.getElem?_cons_succ, List.length_cons, List.length_nil, List.drop_zero, List.take_succ_cons, List.take_zero, and_self]; done) | (simp [A.LeL]; done) | rfl | (simp [op_mk, n_mk, s_mk, kids_mk, encs, A.Le, A.LeL]; done) | skip
  | some xy =>
    obtain ⟨x, y⟩ := xy
    have hk : t.kids = [x, y] ∧ t.op = 3 := by
      unfold twoT at h2
      split at h2
      · rename_i x' y' hk
        split at h2
        · rename_i h3
          simp only [Option.some.injEq, Prod.mk.injEq] at h2
          exact ⟨by rw [hk, h2.1, h2.2], h3⟩
        · cases h2
      · cases h2
    obtain ⟨hk, h3⟩ := hk
    rw [h2] at hn
    have hy : y ∈ t.kids := by rw [hk]; simp
    have hcp := clone_own y (by have := cnt_mem hy; omega)
    have hq := same2_ct x (textT helloS)
    cases hokt : okT t with
    | false =>
      have hnone : helloOfT t = none := by unfold helloOfT; rw [namedT_no (.inl hokt)]
      rw [hokt] at hct
      simp only [hnone, two2V, Option.map_some, Option.getD_some, Option.isSome_some, optW, Option.getD_none, Option.isSome_none, noT, Term.v_eq, op_mk, n_mk, s_mk, kids_mk, encs] at *
      repeat' first | assumption | first | (refine s_norm ?_; try simp only [wsN, wsI, rmv, rng, X.ev, lkp, peel, cond_true, cond_false, nbeq, Nat.reduceBEq, Nat.reduceSub, Nat.reduceAdd, Nat.zero_add, Nat.sub_zero, Nat.sub_self, List.length_cons, List.length_nil, List.length_append, List.cons_append, List.nil_append, List.append_nil]) | (refine s_take fun K hK => ?_) | (refine s_cons (fun K hK => ?_) ?_) | exact s_tnil | refine s_br ?_ | refine s_done ?_ | refine s_seq fun K hK => ?_ | refine s_region ?_ | refine s_draw ?_ | refine s_tree ?_ | refine s_op fun K hK => ?_ | refine s_opq fun K hK => ?_ | refine s_ops ?_ | refine s_endq ?_ | simp only [go_sem, Int.reduceToNat, Int.reduceEq, Nat.reduceAdd, Nat.reduceBEq, Nat.reduceLeDiff, Nat.reduceLT, Int.reduceLT, Int.reduceLE, Int.reduceNeg, reduceCtorEq] | (first | (refine hK _ ?_; clear hK K) | (clear hK K; refine hK _ ?_; clear hK K) | (clear hK K; clear hK K; refine hK _ ?_; clear hK K)) | refine And.intro ?_ ?_ | refine s_call hn ?_ | refine s_call hct ?_ | refine s_callq hct rfl ?_
      all_goals first | (simp [go_sem, tids, A.tid, A.tid.go, List.cons_append, frzT, St.frz, A.sub, A.subL, O.sub, subT, subH, frzY, frzZ, Post, aret, evRs, RV.ev, tupA, A.Le, A.LeL, lkp, St.frzs, St.frz, A.ids, A.idsL, cond_true, cond_false, nbeq, nble, decide_true, decide_false, Nat.reduceLeDiff, Nat.reduceBEq, Nat.reduceAdd, beq_self_eq_true, true_and, and_true, true_implies, List.append_nil, List.nil_append, List.getElem?_cons_zero, List.getElem?_cons_succ, List.length_cons, List.length_nil, List.drop_zero, List.take_succ_cons, List.take_zero, and_self]; done) | (simp [A.LeL]; done) | rfl | (simp [op_mk, n_mk, s_mk, kids_mk, encs, A.Le, A.LeL]; done) | skip
    | true =>
      rw [hokt] at hct
      cases he : eqT x (textT helloS) with
      | false =>
        have hnone : helloOfT t = none := by unfold helloOfT; rw [namedT_two hokt h3 hk, he]; rfl
        rw [he] at hq
        unfold helloS at hp
        unfold helloS at hq
        simp only [hnone, two2V, Option.map_some, Option.getD_some, Option.isSome_some, optW, Option.getD_none, Option.isSome_none, noT, Term.v_eq, op_mk, n_mk, s_mk, kids_mk, encs] at *
        generalize textT _ = g at *
        repeat' first | assumption | first | (refine s_norm ?_; try simp only [wsN, wsI, rmv, rng, X.ev, lkp, peel, cond_true, cond_false, nbeq, Nat.reduceBEq, Nat.reduceSub, Nat.reduceAdd, Nat.zero_add, Nat.sub_zero, Nat.sub_self, List.length_cons, List.length_nil, List.length_append, List.cons_append, List.nil_append, List.append_nil]) | (refine s_take fun K hK => ?_) | (refine s_cons (fun K hK => ?_) ?_) | exact s_tnil | refine s_br ?_ | refine s_done ?_ | refine s_seq fun K hK => ?_ | refine s_region ?_ | refine s_draw ?_ | refine s_tree ?_ | refine s_op fun K hK => ?_ | refine s_opq fun K hK => ?_ | refine s_ops ?_ | refine s_endq ?_ | simp only [go_sem, Int.reduceToNat, Int.reduceEq, Nat.reduceAdd, Nat.reduceBEq, Nat.reduceLeDiff, Nat.reduceLT, Int.reduceLT, Int.reduceLE, Int.reduceNeg, reduceCtorEq] | (first | (refine hK _ ?_; clear hK K) | (clear hK K; refine hK _ ?_; clear hK K) | (clear hK K; clear hK K; refine hK _ ?_; clear hK K)) | refine And.intro ?_ ?_ | refine s_call hn ?_ | refine s_call hct ?_ | refine s_callq hct rfl ?_ | refine s_call hp ?_ | refine s_call hq ?_ | refine s_callq hq rfl ?_
        all_goals first | (simp [go_sem, tids, A.tid, A.tid.go, List.cons_append, frzT, St.frz, A.sub, A.subL, O.sub, subT, subH, frzY, frzZ, Post, aret, evRs, RV.ev, tupA, A.Le, A.LeL, lkp, St.frzs, St.frz, A.ids, A.idsL, cond_true, cond_false, nbeq, nble, decide_true, decide_false, Nat.reduceLeDiff, Nat.reduceBEq, Nat.reduceAdd, beq_self_eq_true, true_and, and_true, true_implies, List.append_nil, List.nil_append, List.getElem?_cons_zero, List.getElem?_cons_succ, List.length_cons, List.length_nil, List.drop_zero, List.take_succ_cons, List.take_zero, and_self]; done) | (simp [A.LeL]; done) | rfl | (simp [op_mk, n_mk, s_mk, kids_mk, encs, A.Le, A.LeL]; done) | skip
      | true =>
        rw [he] at hq
        by_cases h4 : y.op = 4
        · have hsome : helloOfT t = some y := by unfold helloOfT; rw [namedT_two hokt h3 hk, he]; simp [h4]
          have hd : decide (y.op = 4) = true := decide_eq_true h4
          unfold helloS at hp
          unfold helloS at hq
          simp only [hsome, two2V, Option.map_some, Option.getD_some, Option.isSome_some, optW, Term.v_eq] at *
          generalize textT _ = g at *
          repeat' first | assumption | first | (refine s_norm ?_; try simp only [wsN, wsI, rmv, rng, X.ev, lkp, peel, cond_true, cond_false, nbeq, Nat.reduceBEq, Nat.reduceSub, Nat.reduceAdd, Nat.zero_add, Nat.sub_zero, Nat.sub_self, List.length_cons, List.length_nil, List.length_append, List.cons_append, List.nil_append, List.append_nil]) | (refine s_take fun K hK => ?_) | (refine s_cons (fun K hK => ?_) ?_) | exact s_tnil | refine s_br ?_ | refine s_done ?_ | refine s_seq fun K hK => ?_ | refine s_region ?_ | refine s_draw ?_ | refine s_tree ?_ | refine s_op fun K hK => ?_ | refine s_opq fun K hK => ?_ | refine s_ops ?_ | refine s_endq ?_ | simp only [go_sem, Int.reduceToNat, Int.reduceEq, Nat.reduceAdd, Nat.reduceBEq, Nat.reduceLeDiff, Nat.reduceLT, Int.reduceLT, Int.reduceLE, Int.reduceNeg, reduceCtorEq, hd] | (first | (refine hK _ ?_; clear hK K) | (clear hK K; refine hK _ ?_; clear hK K) | (clear hK K; clear hK K; refine hK _ ?_; clear hK K)) | refine And.intro ?_ ?_ | refine s_call hn ?_ | refine s_call hct ?_ | refine s_callq hct rfl ?_ | refine s_call hp ?_ | refine s_call hq ?_ | refine s_callq hq rfl ?_ | refine s_call hcp ?_
          all_goals first | (simp [go_sem, tids, A.tid, A.tid.go, List.cons_append, frzT, St.frz, A.sub, A.subL, O.sub, subT, subH, frzY, frzZ, Post, aret, evRs, RV.ev, tupA, A.Le, A.LeL, lkp, St.frzs, St.frz, A.ids, A.idsL, cond_true, cond_false, nbeq, nble, decide_true, decide_false, Nat.reduceLeDiff, Nat.reduceBEq, Nat.reduceAdd, beq_self_eq_true, true_and, and_true, true_implies, List.append_nil, List.nil_append, List.getElem?_cons_zero, List.getElem?_cons_succ, List.length_cons, List.length_nil, List.drop_zero, List.take_succ_cons, List.take_zero, and_self]; done) | (simp [A.LeL]; done) | rfl | (simp [op_mk, n_mk, s_mk, kids_mk, encs, A.Le, A.LeL]; done) | skip
        · have hnone : helloOfT t = none := by unfold helloOfT; rw [namedT_two hokt h3 hk, he]; simp [h4]
          have hd : decide (y.op = 4) = false := decide_eq_false h4
          unfold helloS at hp
          unfold helloS at hq
          simp only [hnone, two2V, Option.map_some, Option.getD_some, Option.isSome_some, optW, Option.getD_none, Option.isSome_none, noT, Term.v_eq, op_mk, n_mk, s_mk, kids_mk, encs] at *
          generalize textT _ = g at *
          repeat' first | assumption | first | (refine s_norm ?_; try simp only [wsN, wsI, rmv, rng, X.ev, lkp, peel, cond_true, cond_false, nbeq, Nat.reduceBEq, Nat.reduceSub, Nat.reduceAdd, Nat.zero_add, Nat.sub_zero, Nat.sub_self, List.length_cons, List.length_nil, List.length_append, List.cons_append, List.nil_append, List.append_nil]) | (refine s_take fun K hK => ?_) | (refine s_cons (fun K hK => ?_) ?_) | exact s_tnil | refine s_br ?_ | refine s_done ?_ | refine s_seq fun K hK => ?_ | refine s_region ?_ | refine s_draw ?_ | refine s_tree ?_ | refine s_op fun K hK => ?_ | refine s_opq fun K hK => ?_ | refine s_ops ?_ | refine s_endq ?_ | simp only [go_sem, Int.reduceToNat, Int.reduceEq, Nat.reduceAdd, Nat.reduceBEq, Nat.reduceLeDiff, Nat.reduceLT, Int.reduceLT, Int.reduceLE, Int.reduceNeg, reduceCtorEq, hd] | (first | (refine hK _ ?_; clear hK K) | (clear hK K; refine hK _ ?_; clear hK K) | (clear hK K; clear hK K; refine hK _ ?_; clear hK K)) | refine And.intro ?_ ?_ | refine s_call hn ?_ | refine s_call hct ?_ | refine s_callq hct rfl ?_ | refine s_call hp ?_ | refine s_call hq ?_ | refine s_callq hq rfl ?_
          all_goals first | (simp [go_sem, tids, A.tid, A.tid.go, List.cons_append, frzT, St.frz, A.sub, A.subL, O.sub, subT, subH, frzY, frzZ, Post, aret, evRs, RV.ev, tupA, A.Le, A.LeL, lkp, St.frzs, St.frz, A.ids, A.idsL, cond_true, cond_false, nbeq, nble, decide_true, decide_false, Nat.reduceLeDiff, Nat.reduceBEq, Nat.reduceAdd, beq_self_eq_true, true_and, and_true, true_implies, List.append_nil, List.nil_append, List.getElem?_cons_zero, List.getElem?_cons_succ, List.length_cons, List.length_nil, List.drop_zero, List.take_succ_cons, List.take_zero, and_self]; done) | (simp [A.LeL]; done) | rfl | (simp [op_mk, n_mk, s_mk, kids_mk, encs, A.Le, A.LeL]; done) | skip
theorem helloOfT_cnt (t : Term) : ((helloOfT t).getD noT).cnt ≤ t.cnt + 10 := by
  have h0 := noT_cnt
  unfold helloOfT
  cases h1 : namedT t helloS with
  | none => simp only [Option.getD_none]; omega
  | some y =>
    have := cnt_mem (namedT_mem h1)
    by_cases h4 : y.op = 4
    · simp only [if_pos h4, Option.getD_some]; omega
    · simp only [if_neg h4, Option.getD_none]; omega
end Go.Proofs.Ytdcmdjifncpkoaa
