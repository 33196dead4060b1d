/- The text of a policy. -/
import Derived.Test.YtlddcimpdkcgeaaDoorD7
import Derived.Test.YtlddcimpdkcgeaaDoorD9
set_option linter.unusedVariables false
set_option linter.unusedSimpArgs false
set_option maxRecDepth 20000
set_option maxHeartbeats 8000000
namespace Go.Proofs.YtlddcimpdkcgeaaDoor
open Go Go.RowKit Sym
attribute [local irreducible] awp aops aopsQ gop gopQ gopO gopOQ gopV gopT awpN awpT awpTs ACall after

@[reducible] def polO (p : Policy) : O := .box [.d false (.str p.dom), .d false (.int .i64 p.mode), .d false (.sl (encStr p.mx)), .d false (.int .i64 p.til)]
def mxB : ByteArray := ⟨#[109, 120, 58, 32]⟩
def nlB : ByteArray := ⟨#[10]⟩
def ageB : ByteArray := ⟨#[97, 103, 101, 58, 32]⟩
def verB : ByteArray := ⟨#[118, 101, 114, 115, 105, 111, 110, 58, 32, 118, 49, 10, 109, 111, 100, 101, 58, 32]⟩
def modeB (m : Int) : ByteArray := if m = 0 then ⟨#[110, 111, 110, 101]⟩ else if m = 1 then ⟨#[116, 101, 115, 116]⟩ else ⟨#[104, 111, 108, 100]⟩
def headB (m : Int) : ByteArray := (verB ++ modeB m) ++ nlB
def mxT (o : ByteArray) (xs : List ByteArray) : ByteArray := xs.foldl (fun o s => ((o ++ mxB) ++ s) ++ nlB) o
def ageT (age : Int) : Int := bif betw age 0 100000 then age else 0
def polText (p : Policy) (age : Int) : ByteArray := bif polB p then ((mxT (headB p.mode) p.mx ++ ageB) ++ digB (ageT age)) ++ nlB else ⟨#[]⟩
theorem mxT_snoc (o : ByteArray) (xs : List ByteArray) (i : Nat) (h : i < xs.length) : mxT o (xs.take (i + 1)) = ((mxT o (xs.take i) ++ mxB) ++ xs[i]) ++ nlB := by
  rw [mxT, List.take_succ_eq_append_getElem h, List.foldl_append]
  rfl
theorem bappend_assoc (a b c : ByteArray) : (a ++ b) ++ c = a ++ (b ++ c) := by
  have h : ∀ x y : ByteArray, x.data.toList = y.data.toList → x = y := fun x y h => by cases x; cases y; simpa [← Array.toList_inj] using h
  have g : ∀ x y : ByteArray, (x ++ y).data.toList = x.data.toList ++ y.data.toList := fun x y => by rw [ByteArray.data_append, Array.toList_append]
  refine h _ _ ?_
  rw [g, g, g, g, List.append_assoc]
theorem mxT_size (xs : List ByteArray) : ∀ o : ByteArray, (mxT o xs).size = o.size + 5 * xs.length + cntStr xs := by
  induction xs with
  | nil => intro o; simp [mxT, cntStr]
  | cons s r ih =>
    intro o
    have : mxT o (s :: r) = mxT (((o ++ mxB) ++ s) ++ nlB) r := rfl
    rw [this, ih, ByteArray.size_append, ByteArray.size_append, ByteArray.size_append, cntStr, List.length_cons]
    have h1 : mxB.size = 4 := rfl
    have h2 : nlB.size = 1 := rfl
    omega
theorem cntStr_take (xs : List ByteArray) : ∀ i, cntStr (xs.take i) ≤ cntStr xs := by
  induction xs with
  | nil => intro i; simp [cntStr]
  | cons s r ih =>
    intro i
    cases i with
    | zero => simp [cntStr]
    | succ i => have := ih i; simp only [List.take_succ_cons, cntStr]; omega
theorem headB_size (m : Int) : (headB m).size = 23 := by
  unfold headB
  rw [ByteArray.size_append, ByteArray.size_append]
  have h1 : verB.size = 18 := rfl
  have h2 : nlB.size = 1 := rfl
  have h3 : (modeB m).size = 4 := by unfold modeB; split <;> (try split) <;> rfl
  omega
theorem mxT_le (p : Policy) (hp : p.cnt ≤ 1048576) (i : Nat) : (mxT (headB p.mode) (p.mx.take i)).size ≤ 10000000 := by
  rw [mxT_size, headB_size]
  have h1 := cntStr_take p.mx i
  have h2 : (p.mx.take i).length ≤ p.mx.length := by rw [List.length_take]; omega
  have h3 : p.cnt = p.dom.size + (p.mx.length + cntStr p.mx) := rfl
  omega
theorem pol_mode {p : Policy} (h : polB p = true) : p.mode = 0 ∨ p.mode = 1 ∨ p.mode = 2 := by
  have h1 : polRest p = true := by
    revert h; unfold polB; cases p.mx.all patB <;> simp
  have h2 : betw p.mode 0 2 = true := by
    revert h1; unfold polRest; cases domB p.dom <;> cases betw p.mode 0 2 <;> simp
  unfold betw at h2
  by_cases g1 : 0 ≤ p.mode <;> by_cases g2 : p.mode ≤ 2 <;> simp [g1, g2] at h2
  omega
theorem mxT_facts (p : Policy) (hp : p.cnt ≤ 1048576) (i : Nat) (h : i < p.mx.length) : decide ((i : Int) < p.mx.length) = true ∧ wrap64 ((i : Int) + 1) = ((i + 1 : Nat) : Int) ∧ (0 ≤ (i : Int) ∧ (i : Int) < p.mx.length) ∧ (mxT (headB p.mode) (p.mx.take i)).size + 4 ≤ 4611686018427387904 ∧ (mxT (headB p.mode) (p.mx.take i)).size + 4 + p.mx[i].size ≤ 4611686018427387904 ∧ (mxT (headB p.mode) (p.mx.take i)).size + 4 + p.mx[i].size + 1 ≤ 4611686018427387904 ∧ p.mx[i].size ≤ 1048576 := by
  have h1 := mxT_le p hp i
  have h2 := mx_size hp (List.getElem_mem h)
  have h3 : p.cnt = p.dom.size + (p.mx.length + cntStr p.mx) := rfl
  exact ⟨decide_eq_true (Int.ofNat_lt.2 h), by rw [w64 (by omega) (by omega)]; omega, ⟨by omega, by omega⟩, by omega, by omega, by omega, h2⟩
theorem mxT_end (p : Policy) (hp : p.cnt ≤ 1048576) (n : Int) : (mxT (headB p.mode) p.mx).size + 5 ≤ 4611686018427387904 ∧ (mxT (headB p.mode) p.mx).size + 5 + (digB n).size ≤ 4611686018427387904 ∧ (mxT (headB p.mode) p.mx).size + 5 + (digB n).size + 1 ≤ 4611686018427387904 := by
  have h1 := mxT_le p hp p.mx.length
  rw [List.take_length] at h1
  have h2 := digB_size n
  omega
theorem sz_mx : (⟨#[109, 120, 58, 32]⟩ : ByteArray).size = 4 := rfl
theorem sz_nl : (⟨#[10]⟩ : ByteArray).size = 1 := rfl
theorem sz_age : (⟨#[97, 103, 101, 58, 32]⟩ : ByteArray).size = 5 := rfl
theorem sz_ver : (⟨#[118, 101, 114, 115, 105, 111, 110, 58, 32, 118, 49, 10, 109, 111, 100, 101, 58, 32]⟩ : ByteArray).size = 18 := rfl
theorem sz_m0 : (⟨#[110, 111, 110, 101]⟩ : ByteArray).size = 4 := rfl
theorem sz_m1 : (⟨#[116, 101, 115, 116]⟩ : ByteArray).size = 4 := rfl
theorem sz_m2 : (⟨#[104, 111, 108, 100]⟩ : ByteArray).size = 4 := rfl
theorem polText1_ct (p : Policy) (age : Int) (hp : p.cnt ≤ 1048576) : Ct Tryd.prog 62 [p.v, .d false (.int .i64 age)] (.d true (.str (polText p age))) := by
  have hpo := pol1_ct p hp
  have hbt := betw1_ct age 0 100000
  refine ok62.ct mo Tryd.func62 (by simp) rfl fun hok => ?_
  have hml : p.mx.length ≤ 1048576 := by have : p.cnt = p.dom.size + (p.mx.length + cntStr p.mx) := rfl; omega
  unfold ac62
  simp only [Policy.v_eq] at *
  cases hb : polB p with
  | false =>
    rw [hb] at hpo
    simp only [polText, hb, cond_false]
    repeat' first | assumption | first | refine s_opt1 ?_ | refine s_opt0 ?_ | refine s_optq1 ?_ | refine s_optq0 ?_ | (refine s_norm ?_; try simp only [wsN, wsI, rmv, rng, X.ev, lkp, peel, cond_true, cond_false, nbeq, Nat.reduceBEq, Nat.reduceSub, Nat.reduceAdd, Nat.zero_add, Nat.sub_zero, Nat.sub_self, List.length_cons, List.length_nil, List.length_append, List.cons_append, List.nil_append, List.append_nil]) | (refine s_take fun K hK => ?_) | (refine s_cons (fun K hK => ?_) ?_) | exact s_tnil | refine s_br ?_ | refine s_done ?_ | refine s_seq fun K hK => ?_ | refine s_region ?_ | refine s_draw ?_ | refine s_tree ?_ | refine s_op fun K hK => ?_ | refine s_opq fun K hK => ?_ | refine s_ops ?_ | refine s_endq ?_ | simp only [go_sem, Int.reduceToNat, Int.reduceEq, Nat.reduceAdd, Nat.reduceBEq, Nat.reduceLeDiff, Nat.reduceLT, Int.reduceLT, Int.reduceLE, Int.reduceNeg, reduceCtorEq] | (first | (refine hK _ ?_; clear hK K) | (clear hK K; refine hK _ ?_; clear hK K) | (clear hK K; clear hK K; refine hK _ ?_; clear hK K)) | refine And.intro ?_ ?_ | refine s_call hpo ?_
    all_goals first | (simp [go_sem, tids, A.tid, A.tid.go, List.cons_append, frzT, St.frz, A.sub, A.subL, O.sub, subT, subH, frzY, frzZ, Post, aret, evRs, RV.ev, tupA, A.Le, A.LeL, lkp, St.frzs, St.frz, A.ids, A.idsL, cond_true, cond_false, nbeq, nble, decide_true, decide_false, Nat.reduceLeDiff, Nat.reduceBEq, Nat.reduceAdd, beq_self_eq_true, true_and, and_true, true_implies, List.append_nil, List.nil_append, List.getElem?_cons_zero, List.getElem?_cons_succ, List.length_cons, List.length_nil, List.drop_zero, List.take_succ_cons, List.take_zero, and_self]; done) | (simp; done)
  | true =>
    rw [hb] at hpo
    simp only [polText, hb, cond_true]
    have hm := pol_mode hb
    refine s_seq fun K hK => ?_; refine s_region ?_; simp only [go_sem, Int.reduceToNat, Int.reduceEq, Nat.reduceAdd, Nat.reduceBEq, Nat.reduceLeDiff, Nat.reduceLT, Int.reduceLT, Int.reduceLE, Int.reduceNeg, reduceCtorEq]; refine hK _ ?_; clear hK K
    refine s_cut Unit (fun _ => ⟨[(1, .d false (.int .i64 age)), (2, .ptr 0 0)], [polO p]⟩) ?_ (fun _ => ?_)
    · repeat' first | assumption | first | refine s_opt1 ?_ | refine s_opt0 ?_ | refine s_optq1 ?_ | refine s_optq0 ?_ | (refine s_norm ?_; try simp only [wsN, wsI, rmv, rng, X.ev, lkp, peel, cond_true, cond_false, nbeq, Nat.reduceBEq, Nat.reduceSub, Nat.reduceAdd, Nat.zero_add, Nat.sub_zero, Nat.sub_self, List.length_cons, List.length_nil, List.length_append, List.cons_append, List.nil_append, List.append_nil]) | (refine s_take fun K hK => ?_) | (refine s_cons (fun K hK => ?_) ?_) | exact s_tnil | refine s_br ?_ | refine s_done ?_ | refine s_seq fun K hK => ?_ | refine s_region ?_ | refine s_draw ?_ | refine s_tree ?_ | refine s_op fun K hK => ?_ | refine s_opq fun K hK => ?_ | refine s_ops ?_ | refine s_endq ?_ | simp only [go_sem, Int.reduceToNat, Int.reduceEq, Nat.reduceAdd, Nat.reduceBEq, Nat.reduceLeDiff, Nat.reduceLT, Int.reduceLT, Int.reduceLE, Int.reduceNeg, reduceCtorEq] | (first | (refine hK _ ?_; clear hK K) | (clear hK K; refine hK _ ?_; clear hK K) | (clear hK K; clear hK K; refine hK _ ?_; clear hK K)) | refine And.intro ?_ ?_ | refine s_call hpo ?_
      all_goals first | (refine ⟨(), ?_⟩; simp [StLe, leT, leH, A.Le, A.LeL, O.Le, lkp, freeT, freeH, A.free, A.freeL, cond_true, cond_false, nbeq, nble, nblt, decide_true, decide_false, Nat.reduceLT, Nat.reduceBEq, true_and, and_true, List.length_cons, List.length_nil, true_implies, and_self, Bool.and_true, Bool.true_and, Bool.and_self]; done) | (simp; done)
    refine s_cut Unit (fun _ => ⟨[(1, .d false (.int .i64 (ageT age))), (2, .ptr 0 0)], [polO p]⟩) ?_ (fun _ => ?_)
    · cases ha : betw age 0 100000 with
      | false =>
        have : ageT age = 0 := by rw [ageT, ha]; rfl
        rw [ha] at hbt
        rw [this]
        repeat' first | assumption | first | refine s_opt1 ?_ | refine s_opt0 ?_ | refine s_optq1 ?_ | refine s_optq0 ?_ | (refine s_norm ?_; try simp only [wsN, wsI, rmv, rng, X.ev, lkp, peel, cond_true, cond_false, nbeq, Nat.reduceBEq, Nat.reduceSub, Nat.reduceAdd, Nat.zero_add, Nat.sub_zero, Nat.sub_self, List.length_cons, List.length_nil, List.length_append, List.cons_append, List.nil_append, List.append_nil]) | (refine s_take fun K hK => ?_) | (refine s_cons (fun K hK => ?_) ?_) | exact s_tnil | refine s_br ?_ | refine s_done ?_ | refine s_seq fun K hK => ?_ | refine s_region ?_ | refine s_draw ?_ | refine s_tree ?_ | refine s_op fun K hK => ?_ | refine s_opq fun K hK => ?_ | refine s_ops ?_ | refine s_endq ?_ | simp only [go_sem, Int.reduceToNat, Int.reduceEq, Nat.reduceAdd, Nat.reduceBEq, Nat.reduceLeDiff, Nat.reduceLT, Int.reduceLT, Int.reduceLE, Int.reduceNeg, reduceCtorEq] | (first | (refine hK _ ?_; clear hK K) | (clear hK K; refine hK _ ?_; clear hK K) | (clear hK K; clear hK K; refine hK _ ?_; clear hK K)) | refine And.intro ?_ ?_ | refine s_call hbt ?_
        all_goals first | (refine ⟨(), ?_⟩; simp [StLe, leT, leH, A.Le, A.LeL, O.Le, lkp, freeT, freeH, A.free, A.freeL, cond_true, cond_false, nbeq, nble, nblt, decide_true, decide_false, Nat.reduceLT, Nat.reduceBEq, true_and, and_true, List.length_cons, List.length_nil, true_implies, and_self, Bool.and_true, Bool.true_and, Bool.and_self]; done) | (simp; done)
      | true =>
        have : ageT age = age := by rw [ageT, ha]; rfl
        rw [ha] at hbt
        rw [this]
        repeat' first | assumption | first | refine s_opt1 ?_ | refine s_opt0 ?_ | refine s_optq1 ?_ | refine s_optq0 ?_ | (refine s_norm ?_; try simp only [wsN, wsI, rmv, rng, X.ev, lkp, peel, cond_true, cond_false, nbeq, Nat.reduceBEq, Nat.reduceSub, Nat.reduceAdd, Nat.zero_add, Nat.sub_zero, Nat.sub_self, List.length_cons, List.length_nil, List.length_append, List.cons_append, List.nil_append, List.append_nil]) | (refine s_take fun K hK => ?_) | (refine s_cons (fun K hK => ?_) ?_) | exact s_tnil | refine s_br ?_ | refine s_done ?_ | refine s_seq fun K hK => ?_ | refine s_region ?_ | refine s_draw ?_ | refine s_tree ?_ | refine s_op fun K hK => ?_ | refine s_opq fun K hK => ?_ | refine s_ops ?_ | refine s_endq ?_ | simp only [go_sem, Int.reduceToNat, Int.reduceEq, Nat.reduceAdd, Nat.reduceBEq, Nat.reduceLeDiff, Nat.reduceLT, Int.reduceLT, Int.reduceLE, Int.reduceNeg, reduceCtorEq] | (first | (refine hK _ ?_; clear hK K) | (clear hK K; refine hK _ ?_; clear hK K) | (clear hK K; clear hK K; refine hK _ ?_; clear hK K)) | refine And.intro ?_ ?_ | refine s_call hbt ?_
        all_goals first | (refine ⟨(), ?_⟩; simp [StLe, leT, leH, A.Le, A.LeL, O.Le, lkp, freeT, freeH, A.free, A.freeL, cond_true, cond_false, nbeq, nble, nblt, decide_true, decide_false, Nat.reduceLT, Nat.reduceBEq, true_and, and_true, List.length_cons, List.length_nil, true_implies, and_self, Bool.and_true, Bool.true_and, Bool.and_self]; done) | (simp; done)
    have hdig := digits1_ct (ageT age)
    generalize ageT age = a at *
    refine s_cut Unit (fun _ => ⟨[(1, .d false (.int .i64 a)), (2, .ptr 0 0), (5, .d true (.str (headB p.mode)))], [polO p]⟩) ?_ (fun _ => ?_)
    · rcases hm with ho | ho | ho <;> rw [ho]
      all_goals
        repeat' first | assumption | first | refine s_opt1 ?_ | refine s_opt0 ?_ | refine s_optq1 ?_ | refine s_optq0 ?_ | (refine s_norm ?_; try simp only [wsN, wsI, rmv, rng, X.ev, lkp, peel, cond_true, cond_false, nbeq, Nat.reduceBEq, Nat.reduceSub, Nat.reduceAdd, Nat.zero_add, Nat.sub_zero, Nat.sub_self, List.length_cons, List.length_nil, List.length_append, List.cons_append, List.nil_append, List.append_nil]) | (refine s_take fun K hK => ?_) | (refine s_cons (fun K hK => ?_) ?_) | exact s_tnil | refine s_br ?_ | refine s_done ?_ | refine s_seq fun K hK => ?_ | refine s_region ?_ | refine s_draw ?_ | refine s_tree ?_ | refine s_op fun K hK => ?_ | refine s_opq fun K hK => ?_ | refine s_ops ?_ | refine s_endq ?_ | simp only [go_sem, Int.reduceToNat, Int.reduceEq, Nat.reduceAdd, Nat.reduceBEq, Nat.reduceLeDiff, Nat.reduceLT, Int.reduceLT, Int.reduceLE, Int.reduceNeg, reduceCtorEq, ho, sz_ver, sz_nl, sz_m0, sz_m1, sz_m2] | (first | (refine hK _ ?_; clear hK K) | (clear hK K; refine hK _ ?_; clear hK K) | (clear hK K; clear hK K; refine hK _ ?_; clear hK K)) | refine And.intro ?_ ?_
        all_goals first | (refine ⟨(), ?_⟩; simp [StLe, leT, leH, A.Le, A.LeL, O.Le, lkp, freeT, freeH, A.free, A.freeL, cond_true, cond_false, nbeq, nble, nblt, decide_true, decide_false, Nat.reduceLT, Nat.reduceBEq, true_and, and_true, List.length_cons, List.length_nil, true_implies, and_self, Bool.and_true, Bool.true_and, Bool.and_self, ho, headB, modeB, verB, nlB]; done) | (simp; done) | skip
    have hend := mxT_end p hp a
    have hstep := mxT_facts p hp
    have hsn := mxT_snoc (headB p.mode) p.mx
    generalize headB p.mode = o at *
    obtain ⟨z1, z2, z3⟩ := hend
    repeat' first | assumption | first | refine s_opt1 ?_ | refine s_opt0 ?_ | refine s_optq1 ?_ | refine s_optq0 ?_ | (refine s_norm ?_; try simp only [wsN, wsI, rmv, rng, X.ev, lkp, peel, cond_true, cond_false, nbeq, Nat.reduceBEq, Nat.reduceSub, Nat.reduceAdd, Nat.zero_add, Nat.sub_zero, Nat.sub_self, List.length_cons, List.length_nil, List.length_append, List.cons_append, List.nil_append, List.append_nil]) | (refine s_take fun K hK => ?_) | (refine s_cons (fun K hK => ?_) ?_) | exact s_tnil | refine s_br ?_ | refine s_done ?_ | refine s_seq fun K hK => ?_ | refine s_region ?_ | refine s_draw ?_ | refine s_tree ?_ | refine s_op fun K hK => ?_ | refine s_opq fun K hK => ?_ | refine s_ops ?_ | refine s_endq ?_ | simp only [go_sem, Int.reduceToNat, Int.reduceEq, Nat.reduceAdd, Nat.reduceBEq, Nat.reduceLeDiff, Nat.reduceLT, Int.reduceLT, Int.reduceLE, Int.reduceNeg, reduceCtorEq] | (first | (refine hK _ ?_; clear hK K) | (clear hK K; refine hK _ ?_; clear hK K) | (clear hK K; clear hK K; refine hK _ ?_; clear hK K)) | refine And.intro ?_ ?_
    refine s_loop { i : Nat // i ≤ p.mx.length } (fun i => ⟨[(1, .d false (.int .i64 a)), (2, .ptr 0 0), (5, .d true (.str (mxT o (p.mx.take i.1)))), (6, .d true (.int .i64 i.1))], [polO p]⟩) (fun i => p.mx.length - i.1) ⟨0, Nat.zero_le _⟩ ?_ ?_
    · simp [StLe, leT, leH, A.Le, A.LeL, O.Le, lkp, freeT, freeH, A.free, A.freeL, cond_true, cond_false, nbeq, nble, nblt, decide_true, decide_false, Nat.reduceLT, Nat.reduceBEq, true_and, and_true, List.length_cons, List.length_nil, true_implies, and_self, Bool.and_true, Bool.true_and, Bool.and_self, mxT]
    · rintro ⟨i, hi⟩ K1 hK1
      simp only
      by_cases hlt : i < p.mx.length
      · obtain ⟨e1, hw, ⟨g1, g2⟩, y1, y2, y3, y4⟩ := hstep i hlt
        have hget : p.mx[i]? = some p.mx[i] := List.getElem?_eq_getElem hlt
        have hgd := encStr_getD p.mx i _ hget
        have hfin : ∀ σ', StLe σ' ⟨[(1, .d false (.int .i64 a)), (2, .ptr 0 0), (5, .d true (.str (mxT o (p.mx.take (i + 1))))), (6, .d true (.int .i64 ((i + 1 : Nat) : Int)))], [polO p]⟩ → K1 σ' := fun σ' h => hK1 σ' ⟨i + 1, hlt⟩ h (by simp; omega)
        rw [hsn i hlt] at hfin
        clear hK1 hstep hsn z1 z2 z3 hm hb
        generalize mxT o (p.mx.take i) = x at *
        generalize p.mx[i] = y at *
        simp only [mxB, nlB] at hfin
        repeat' first | assumption | first | refine s_opt1 ?_ | refine s_opt0 ?_ | refine s_optq1 ?_ | refine s_optq0 ?_ | (refine s_norm ?_; try simp only [wsN, wsI, rmv, rng, X.ev, lkp, peel, cond_true, cond_false, nbeq, Nat.reduceBEq, Nat.reduceSub, Nat.reduceAdd, Nat.zero_add, Nat.sub_zero, Nat.sub_self, List.length_cons, List.length_nil, List.length_append, List.cons_append, List.nil_append, List.append_nil]) | (refine s_take fun K hK => ?_) | (refine s_cons (fun K hK => ?_) ?_) | exact s_tnil | refine s_br ?_ | refine s_done ?_ | refine s_seq fun K hK => ?_ | refine s_region ?_ | refine s_draw ?_ | refine s_tree ?_ | refine s_op fun K hK => ?_ | refine s_opq fun K hK => ?_ | refine s_ops ?_ | refine s_endq ?_ | simp only [go_sem, Int.reduceToNat, Int.reduceEq, Nat.reduceAdd, Nat.reduceBEq, Nat.reduceLeDiff, Nat.reduceLT, Int.reduceLT, Int.reduceLE, Int.reduceNeg, reduceCtorEq, e1, hw, encStr_length, Int.toNat_natCast, hgd, sz_mx, sz_nl] | (first | (refine hK _ ?_; clear hK K) | (clear hK K; refine hK _ ?_; clear hK K) | (clear hK K; clear hK K; refine hK _ ?_; clear hK K)) | refine And.intro ?_ ?_
        all_goals first | (refine hfin _ ?_; simp [StLe, leT, leH, A.Le, A.LeL, O.Le, lkp, freeT, freeH, A.free, A.freeL, cond_true, cond_false, nbeq, nble, nblt, decide_true, decide_false, Nat.reduceLT, Nat.reduceBEq, true_and, and_true, List.length_cons, List.length_nil, true_implies, and_self, Bool.and_true, Bool.true_and, Bool.and_self]; done) | (simp; done) | exact Nat.le_of_add_le_add_right (b := 4) y1 | exact Nat.le_of_add_le_add_right (b := 1) y3
      · have hil : i = p.mx.length := by omega
        subst hil
        have e1 : decide ((p.mx.length : Int) < p.mx.length) = false := decide_eq_false (Int.lt_irrefl _)
        rw [List.take_length]
        clear hK1 hstep hsn hm hb
        simp only [ageB, nlB]
        generalize mxT o p.mx = x at *
        generalize digB a = dg at *
        repeat' first | assumption | first | refine s_opt1 ?_ | refine s_opt0 ?_ | refine s_optq1 ?_ | refine s_optq0 ?_ | (refine s_norm ?_; try simp only [wsN, wsI, rmv, rng, X.ev, lkp, peel, cond_true, cond_false, nbeq, Nat.reduceBEq, Nat.reduceSub, Nat.reduceAdd, Nat.zero_add, Nat.sub_zero, Nat.sub_self, List.length_cons, List.length_nil, List.length_append, List.cons_append, List.nil_append, List.append_nil]) | (refine s_take fun K hK => ?_) | (refine s_cons (fun K hK => ?_) ?_) | exact s_tnil | refine s_br ?_ | refine s_done ?_ | refine s_seq fun K hK => ?_ | refine s_region ?_ | refine s_draw ?_ | refine s_tree ?_ | refine s_op fun K hK => ?_ | refine s_opq fun K hK => ?_ | refine s_ops ?_ | refine s_endq ?_ | simp only [go_sem, Int.reduceToNat, Int.reduceEq, Nat.reduceAdd, Nat.reduceBEq, Nat.reduceLeDiff, Nat.reduceLT, Int.reduceLT, Int.reduceLE, Int.reduceNeg, reduceCtorEq, e1, encStr_length, sz_age, sz_nl] | (first | (refine hK _ ?_; clear hK K) | (clear hK K; refine hK _ ?_; clear hK K) | (clear hK K; clear hK K; refine hK _ ?_; clear hK K)) | refine And.intro ?_ ?_ | refine s_call hdig ?_
        all_goals first | (simp [go_sem, tids, A.tid, A.tid.go, List.cons_append, frzT, St.frz, A.sub, A.subL, O.sub, subT, subH, frzY, frzZ, Post, aret, evRs, RV.ev, tupA, A.Le, A.LeL, lkp, St.frzs, St.frz, A.ids, A.idsL, cond_true, cond_false, nbeq, nble, decide_true, decide_false, Nat.reduceLeDiff, Nat.reduceBEq, Nat.reduceAdd, beq_self_eq_true, true_and, and_true, true_implies, List.append_nil, List.nil_append, List.getElem?_cons_zero, List.getElem?_cons_succ, List.length_cons, List.length_nil, List.drop_zero, List.take_succ_cons, List.take_zero, and_self]; done) | (simp; done) | (simp [go_sem, tids, A.tid, A.tid.go, List.cons_append, frzT, St.frz, A.sub, A.subL, O.sub, subT, subH, frzY, frzZ, Post, aret, evRs, RV.ev, tupA, A.Le, A.LeL, lkp, St.frzs, St.frz, A.ids, A.idsL, cond_true, cond_false, nbeq, nble, decide_true, decide_false, Nat.reduceLeDiff, Nat.reduceBEq, Nat.reduceAdd, beq_self_eq_true, true_and, and_true, true_implies, List.append_nil, List.nil_append, List.getElem?_cons_zero, List.getElem?_cons_succ, List.length_cons, List.length_nil, List.drop_zero, List.take_succ_cons, List.take_zero, and_self]; done) | exact Nat.le_of_add_le_add_right (b := 5) z1 | exact Nat.le_of_add_le_add_right (b := 1) z3 | (simp [go_sem, tids, A.tid, A.tid.go, List.cons_append, frzT, St.frz, A.sub, A.subL, O.sub, subT, subH, frzY, frzZ, Post, aret, evRs, RV.ev, tupA, A.Le, A.LeL, lkp, St.frzs, St.frz, A.ids, A.idsL, cond_true, cond_false, nbeq, nble, decide_true, decide_false, Nat.reduceLeDiff, Nat.reduceBEq, Nat.reduceAdd, beq_self_eq_true, true_and, and_true, true_implies, List.append_nil, List.nil_append, List.getElem?_cons_zero, List.getElem?_cons_succ, List.length_cons, List.length_nil, List.drop_zero, List.take_succ_cons, List.take_zero, and_self]; rfl)
@[reducible] def modesL : List (List D) := [[.str ⟨#[110, 111, 110, 101]⟩], [.str ⟨#[116, 101, 115, 116]⟩], [.str ⟨#[104, 111, 108, 100]⟩]]
theorem modes_ct : Ct Tryd.prog 120 [] (.d false (.sl modesL)) := by
  refine ok120.ct mo Tryd.func120 (by simp) rfl fun hok => ?_
  unfold ac120
  repeat' first | assumption | first | refine s_opt1 ?_ | refine s_opt0 ?_ | refine s_optq1 ?_ | refine s_optq0 ?_ | (refine s_norm ?_; try simp only [wsN, wsI, rmv, rng, X.ev, lkp, peel, cond_true, cond_false, nbeq, Nat.reduceBEq, Nat.reduceSub, Nat.reduceAdd, Nat.zero_add, Nat.sub_zero, Nat.sub_self, List.length_cons, List.length_nil, List.length_append, List.cons_append, List.nil_append, List.append_nil]) | (refine s_take fun K hK => ?_) | (refine s_cons (fun K hK => ?_) ?_) | exact s_tnil | refine s_br ?_ | refine s_done ?_ | refine s_seq fun K hK => ?_ | refine s_region ?_ | refine s_draw ?_ | refine s_tree ?_ | refine s_op fun K hK => ?_ | refine s_opq fun K hK => ?_ | refine s_ops ?_ | refine s_endq ?_ | simp only [go_sem, Int.reduceToNat, Int.reduceEq, Nat.reduceAdd, Nat.reduceBEq, Nat.reduceLeDiff, Nat.reduceLT, Int.reduceLT, Int.reduceLE, Int.reduceNeg, reduceCtorEq] | (first | (refine hK _ ?_; clear hK K) | (clear hK K; refine hK _ ?_; clear hK K) | (clear hK K; clear hK K; refine hK _ ?_; clear hK K)) | refine And.intro ?_ ?_
  all_goals first | (simp [go_sem, tids, A.tid, A.tid.go, List.cons_append, frzT, St.frz, A.sub, A.subL, O.sub, subT, subH, frzY, frzZ, Post, aret, evRs, RV.ev, tupA, A.Le, A.LeL, lkp, St.frzs, St.frz, A.ids, A.idsL, cond_true, cond_false, nbeq, nble, decide_true, decide_false, Nat.reduceLeDiff, Nat.reduceBEq, Nat.reduceAdd, beq_self_eq_true, true_and, and_true, true_implies, List.append_nil, List.nil_append, List.getElem?_cons_zero, List.getElem?_cons_succ, List.length_cons, List.length_nil, List.drop_zero, List.take_succ_cons, List.take_zero, and_self]; done) | (simp; done) | (simp [go_sem, tids, A.tid, A.tid.go, List.cons_append, frzT, St.frz, A.sub, A.subL, O.sub, subT, subH, frzY, frzZ, Post, aret, evRs, RV.ev, tupA, A.Le, A.LeL, lkp, St.frzs, St.frz, A.ids, A.idsL, cond_true, cond_false, nbeq, nble, decide_true, decide_false, Nat.reduceLeDiff, Nat.reduceBEq, Nat.reduceAdd, beq_self_eq_true, true_and, and_true, true_implies, List.append_nil, List.nil_append, List.getElem?_cons_zero, List.getElem?_cons_succ, List.length_cons, List.length_nil, List.drop_zero, List.take_succ_cons, List.take_zero, and_self]; done) | skip
theorem polText2_ct (p : Policy) (age : Int) (hp : p.cnt ≤ 1048576) : Ct Tryd.prog 64 [p.v, .d false (.int .i64 age)] (.d true (.str (polText p age))) := by
  have hpo := pol2_ct p hp
  have hbt := isTime_ct age
  refine ok64.ct mo Tryd.func64 (by simp) rfl fun hok => ?_
  have hml : p.mx.length ≤ 1048576 := by have : p.cnt = p.dom.size + (p.mx.length + cntStr p.mx) := rfl; omega
  have hmo := modes_ct
  unfold ac64
  simp only [Policy.v_eq] at *
  cases hb : polB p with
  | false =>
    rw [hb] at hpo
    simp only [polText, hb, cond_false]
    repeat' first | assumption | first | refine s_opt1 ?_ | refine s_opt0 ?_ | refine s_optq1 ?_ | refine s_optq0 ?_ | (refine s_norm ?_; try simp only [wsN, wsI, rmv, rng, X.ev, lkp, peel, cond_true, cond_false, nbeq, Nat.reduceBEq, Nat.reduceSub, Nat.reduceAdd, Nat.zero_add, Nat.sub_zero, Nat.sub_self, List.length_cons, List.length_nil, List.length_append, List.cons_append, List.nil_append, List.append_nil]) | (refine s_take fun K hK => ?_) | (refine s_cons (fun K hK => ?_) ?_) | exact s_tnil | refine s_br ?_ | refine s_done ?_ | refine s_seq fun K hK => ?_ | refine s_region ?_ | refine s_draw ?_ | refine s_tree ?_ | refine s_op fun K hK => ?_ | refine s_opq fun K hK => ?_ | refine s_ops ?_ | refine s_endq ?_ | simp only [go_sem, Int.reduceToNat, Int.reduceEq, Nat.reduceAdd, Nat.reduceBEq, Nat.reduceLeDiff, Nat.reduceLT, Int.reduceLT, Int.reduceLE, Int.reduceNeg, reduceCtorEq] | (first | (refine hK _ ?_; clear hK K) | (clear hK K; refine hK _ ?_; clear hK K) | (clear hK K; clear hK K; refine hK _ ?_; clear hK K)) | refine And.intro ?_ ?_ | refine s_call hpo ?_
    all_goals first | (simp [go_sem, tids, A.tid, A.tid.go, List.cons_append, frzT, St.frz, A.sub, A.subL, O.sub, subT, subH, frzY, frzZ, Post, aret, evRs, RV.ev, tupA, A.Le, A.LeL, lkp, St.frzs, St.frz, A.ids, A.idsL, cond_true, cond_false, nbeq, nble, decide_true, decide_false, Nat.reduceLeDiff, Nat.reduceBEq, Nat.reduceAdd, beq_self_eq_true, true_and, and_true, true_implies, List.append_nil, List.nil_append, List.getElem?_cons_zero, List.getElem?_cons_succ, List.length_cons, List.length_nil, List.drop_zero, List.take_succ_cons, List.take_zero, and_self]; done) | (simp; done)
  | true =>
    rw [hb] at hpo
    simp only [polText, hb, cond_true]
    have hm := pol_mode hb
    refine s_seq fun K hK => ?_; refine s_region ?_; simp only [go_sem, Int.reduceToNat, Int.reduceEq, Nat.reduceAdd, Nat.reduceBEq, Nat.reduceLeDiff, Nat.reduceLT, Int.reduceLT, Int.reduceLE, Int.reduceNeg, reduceCtorEq]; refine hK _ ?_; clear hK K
    refine s_cut Unit (fun _ => ⟨[(1, .d false (.int .i64 age)), (2, .ptr 0 0)], [polO p]⟩) ?_ (fun _ => ?_)
    · repeat' first | assumption | first | refine s_opt1 ?_ | refine s_opt0 ?_ | refine s_optq1 ?_ | refine s_optq0 ?_ | (refine s_norm ?_; try simp only [wsN, wsI, rmv, rng, X.ev, lkp, peel, cond_true, cond_false, nbeq, Nat.reduceBEq, Nat.reduceSub, Nat.reduceAdd, Nat.zero_add, Nat.sub_zero, Nat.sub_self, List.length_cons, List.length_nil, List.length_append, List.cons_append, List.nil_append, List.append_nil]) | (refine s_take fun K hK => ?_) | (refine s_cons (fun K hK => ?_) ?_) | exact s_tnil | refine s_br ?_ | refine s_done ?_ | refine s_seq fun K hK => ?_ | refine s_region ?_ | refine s_draw ?_ | refine s_tree ?_ | refine s_op fun K hK => ?_ | refine s_opq fun K hK => ?_ | refine s_ops ?_ | refine s_endq ?_ | simp only [go_sem, Int.reduceToNat, Int.reduceEq, Nat.reduceAdd, Nat.reduceBEq, Nat.reduceLeDiff, Nat.reduceLT, Int.reduceLT, Int.reduceLE, Int.reduceNeg, reduceCtorEq] | (first | (refine hK _ ?_; clear hK K) | (clear hK K; refine hK _ ?_; clear hK K) | (clear hK K; clear hK K; refine hK _ ?_; clear hK K)) | refine And.intro ?_ ?_ | refine s_call hpo ?_
      all_goals first | (refine ⟨(), ?_⟩; simp [StLe, leT, leH, A.Le, A.LeL, O.Le, lkp, freeT, freeH, A.free, A.freeL, cond_true, cond_false, nbeq, nble, nblt, decide_true, decide_false, Nat.reduceLT, Nat.reduceBEq, true_and, and_true, List.length_cons, List.length_nil, true_implies, and_self, Bool.and_true, Bool.true_and, Bool.and_self]; done) | (simp; done)
    refine s_cut Unit (fun _ => ⟨[(1, .d false (.int .i64 (ageT age))), (2, .ptr 0 0)], [polO p]⟩) ?_ (fun _ => ?_)
    · cases ha : betw age 0 100000 with
      | false =>
        have : ageT age = 0 := by rw [ageT, ha]; rfl
        rw [ha] at hbt
        rw [this]
        repeat' first | assumption | first | refine s_opt1 ?_ | refine s_opt0 ?_ | refine s_optq1 ?_ | refine s_optq0 ?_ | (refine s_norm ?_; try simp only [wsN, wsI, rmv, rng, X.ev, lkp, peel, cond_true, cond_false, nbeq, Nat.reduceBEq, Nat.reduceSub, Nat.reduceAdd, Nat.zero_add, Nat.sub_zero, Nat.sub_self, List.length_cons, List.length_nil, List.length_append, List.cons_append, List.nil_append, List.append_nil]) | (refine s_take fun K hK => ?_) | (refine s_cons (fun K hK => ?_) ?_) | exact s_tnil | refine s_br ?_ | refine s_done ?_ | refine s_seq fun K hK => ?_ | refine s_region ?_ | refine s_draw ?_ | refine s_tree ?_ | refine s_op fun K hK => ?_ | refine s_opq fun K hK => ?_ | refine s_ops ?_ | refine s_endq ?_ | simp only [go_sem, Int.reduceToNat, Int.reduceEq, Nat.reduceAdd, Nat.reduceBEq, Nat.reduceLeDiff, Nat.reduceLT, Int.reduceLT, Int.reduceLE, Int.reduceNeg, reduceCtorEq] | (first | (refine hK _ ?_; clear hK K) | (clear hK K; refine hK _ ?_; clear hK K) | (clear hK K; clear hK K; refine hK _ ?_; clear hK K)) | refine And.intro ?_ ?_ | refine s_call hbt ?_
        all_goals first | (refine ⟨(), ?_⟩; simp [StLe, leT, leH, A.Le, A.LeL, O.Le, lkp, freeT, freeH, A.free, A.freeL, cond_true, cond_false, nbeq, nble, nblt, decide_true, decide_false, Nat.reduceLT, Nat.reduceBEq, true_and, and_true, List.length_cons, List.length_nil, true_implies, and_self, Bool.and_true, Bool.true_and, Bool.and_self]; done) | (simp; done)
      | true =>
        have : ageT age = age := by rw [ageT, ha]; rfl
        rw [ha] at hbt
        rw [this]
        repeat' first | assumption | first | refine s_opt1 ?_ | refine s_opt0 ?_ | refine s_optq1 ?_ | refine s_optq0 ?_ | (refine s_norm ?_; try simp only [wsN, wsI, rmv, rng, X.ev, lkp, peel, cond_true, cond_false, nbeq, Nat.reduceBEq, Nat.reduceSub, Nat.reduceAdd, Nat.zero_add, Nat.sub_zero, Nat.sub_self, List.length_cons, List.length_nil, List.length_append, List.cons_append, List.nil_append, List.append_nil]) | (refine s_take fun K hK => ?_) | (refine s_cons (fun K hK => ?_) ?_) | exact s_tnil | refine s_br ?_ | refine s_done ?_ | refine s_seq fun K hK => ?_ | refine s_region ?_ | refine s_draw ?_ | refine s_tree ?_ | refine s_op fun K hK => ?_ | refine s_opq fun K hK => ?_ | refine s_ops ?_ | refine s_endq ?_ | simp only [go_sem, Int.reduceToNat, Int.reduceEq, Nat.reduceAdd, Nat.reduceBEq, Nat.reduceLeDiff, Nat.reduceLT, Int.reduceLT, Int.reduceLE, Int.reduceNeg, reduceCtorEq] | (first | (refine hK _ ?_; clear hK K) | (clear hK K; refine hK _ ?_; clear hK K) | (clear hK K; clear hK K; refine hK _ ?_; clear hK K)) | refine And.intro ?_ ?_ | refine s_call hbt ?_
        all_goals first | (refine ⟨(), ?_⟩; simp [StLe, leT, leH, A.Le, A.LeL, O.Le, lkp, freeT, freeH, A.free, A.freeL, cond_true, cond_false, nbeq, nble, nblt, decide_true, decide_false, Nat.reduceLT, Nat.reduceBEq, true_and, and_true, List.length_cons, List.length_nil, true_implies, and_self, Bool.and_true, Bool.true_and, Bool.and_self]; done) | (simp; done)
    have hdig := itoa_ct (ageT age)
    generalize ageT age = a at *
    refine s_cut Unit (fun _ => ⟨[(1, .d false (.int .i64 a)), (2, .ptr 0 0), (5, .d true (.str (headB p.mode)))], [polO p]⟩) ?_ (fun _ => ?_)
    · rcases hm with ho | ho | ho <;> rw [ho]
      all_goals
        repeat' first | assumption | first | refine s_opt1 ?_ | refine s_opt0 ?_ | refine s_optq1 ?_ | refine s_optq0 ?_ | (refine s_norm ?_; try simp only [wsN, wsI, rmv, rng, X.ev, lkp, peel, cond_true, cond_false, nbeq, Nat.reduceBEq, Nat.reduceSub, Nat.reduceAdd, Nat.zero_add, Nat.sub_zero, Nat.sub_self, List.length_cons, List.length_nil, List.length_append, List.cons_append, List.nil_append, List.append_nil]) | (refine s_take fun K hK => ?_) | (refine s_cons (fun K hK => ?_) ?_) | exact s_tnil | refine s_br ?_ | refine s_done ?_ | refine s_seq fun K hK => ?_ | refine s_region ?_ | refine s_draw ?_ | refine s_tree ?_ | refine s_op fun K hK => ?_ | refine s_opq fun K hK => ?_ | refine s_ops ?_ | refine s_endq ?_ | simp only [go_sem, Int.reduceToNat, Int.reduceEq, Nat.reduceAdd, Nat.reduceBEq, Nat.reduceLeDiff, Nat.reduceLT, Int.reduceLT, Int.reduceLE, Int.reduceNeg, reduceCtorEq, ho, sz_ver, sz_nl, sz_m0, sz_m1, sz_m2] | (first | (refine hK _ ?_; clear hK K) | (clear hK K; refine hK _ ?_; clear hK K) | (clear hK K; clear hK K; refine hK _ ?_; clear hK K)) | refine And.intro ?_ ?_ | refine s_call hmo ?_
        all_goals first | (refine ⟨(), ?_⟩; simp [StLe, leT, leH, A.Le, A.LeL, O.Le, lkp, freeT, freeH, A.free, A.freeL, cond_true, cond_false, nbeq, nble, nblt, decide_true, decide_false, Nat.reduceLT, Nat.reduceBEq, true_and, and_true, List.length_cons, List.length_nil, true_implies, and_self, Bool.and_true, Bool.true_and, Bool.and_self, ho, headB, modeB, verB, nlB]; done) | (simp; done) | skip
    have hend := mxT_end p hp a
    have hstep := mxT_facts p hp
    have hsn := mxT_snoc (headB p.mode) p.mx
    generalize headB p.mode = o at *
    obtain ⟨z1, z2, z3⟩ := hend
    repeat' first | assumption | first | refine s_opt1 ?_ | refine s_opt0 ?_ | refine s_optq1 ?_ | refine s_optq0 ?_ | (refine s_norm ?_; try simp only [wsN, wsI, rmv, rng, X.ev, lkp, peel, cond_true, cond_false, nbeq, Nat.reduceBEq, Nat.reduceSub, Nat.reduceAdd, Nat.zero_add, Nat.sub_zero, Nat.sub_self, List.length_cons, List.length_nil, List.length_append, List.cons_append, List.nil_append, List.append_nil]) | (refine s_take fun K hK => ?_) | (refine s_cons (fun K hK => ?_) ?_) | exact s_tnil | refine s_br ?_ | refine s_done ?_ | refine s_seq fun K hK => ?_ | refine s_region ?_ | refine s_draw ?_ | refine s_tree ?_ | refine s_op fun K hK => ?_ | refine s_opq fun K hK => ?_ | refine s_ops ?_ | refine s_endq ?_ | simp only [go_sem, Int.reduceToNat, Int.reduceEq, Nat.reduceAdd, Nat.reduceBEq, Nat.reduceLeDiff, Nat.reduceLT, Int.reduceLT, Int.reduceLE, Int.reduceNeg, reduceCtorEq] | (first | (refine hK _ ?_; clear hK K) | (clear hK K; refine hK _ ?_; clear hK K) | (clear hK K; clear hK K; refine hK _ ?_; clear hK K)) | refine And.intro ?_ ?_
    refine s_loop { i : Nat // i ≤ p.mx.length } (fun i => ⟨[(1, .d false (.int .i64 a)), (5, .d true (.str (mxT o (p.mx.take i.1)))), (22, .d false (.sl (encStr p.mx))), (23, .d true (.int .i64 p.mx.length)), (24, .d true (.int .i64 i.1))], [polO p]⟩) (fun i => p.mx.length - i.1) ⟨0, Nat.zero_le _⟩ ?_ ?_
    · simp [StLe, leT, leH, A.Le, A.LeL, O.Le, lkp, freeT, freeH, A.free, A.freeL, cond_true, cond_false, nbeq, nble, nblt, decide_true, decide_false, Nat.reduceLT, Nat.reduceBEq, true_and, and_true, List.length_cons, List.length_nil, true_implies, and_self, Bool.and_true, Bool.true_and, Bool.and_self, mxT, encStr_length]
    · rintro ⟨i, hi⟩ K1 hK1
      simp only
      by_cases hlt : i < p.mx.length
      · obtain ⟨e1, hw, ⟨g1, g2⟩, y1, y2, y3, y4⟩ := hstep i hlt
        have hget : p.mx[i]? = some p.mx[i] := List.getElem?_eq_getElem hlt
        have hgd := encStr_getD p.mx i _ hget
        have hfin : ∀ σ', StLe σ' ⟨[(1, .d false (.int .i64 a)), (5, .d true (.str (mxT o (p.mx.take (i + 1))))), (22, .d false (.sl (encStr p.mx))), (23, .d true (.int .i64 p.mx.length)), (24, .d true (.int .i64 ((i + 1 : Nat) : Int)))], [polO p]⟩ → K1 σ' := fun σ' h => hK1 σ' ⟨i + 1, hlt⟩ h (by simp; omega)
        rw [hsn i hlt, bappend_assoc, bappend_assoc, ← bappend_assoc mxB] at hfin
        clear hK1 hstep hsn z1 z2 z3 hm hb
        generalize mxT o (p.mx.take i) = x at *
        generalize p.mx[i] = y at *
        simp only [mxB, nlB] at hfin
        repeat' first | assumption | first | refine s_opt1 ?_ | refine s_opt0 ?_ | refine s_optq1 ?_ | refine s_optq0 ?_ | (refine s_norm ?_; try simp only [wsN, wsI, rmv, rng, X.ev, lkp, peel, cond_true, cond_false, nbeq, Nat.reduceBEq, Nat.reduceSub, Nat.reduceAdd, Nat.zero_add, Nat.sub_zero, Nat.sub_self, List.length_cons, List.length_nil, List.length_append, List.cons_append, List.nil_append, List.append_nil]) | (refine s_take fun K hK => ?_) | (refine s_cons (fun K hK => ?_) ?_) | exact s_tnil | refine s_br ?_ | refine s_done ?_ | refine s_seq fun K hK => ?_ | refine s_region ?_ | refine s_draw ?_ | refine s_tree ?_ | refine s_op fun K hK => ?_ | refine s_opq fun K hK => ?_ | refine s_ops ?_ | refine s_endq ?_ | simp only [go_sem, Int.reduceToNat, Int.reduceEq, Nat.reduceAdd, Nat.reduceBEq, Nat.reduceLeDiff, Nat.reduceLT, Int.reduceLT, Int.reduceLE, Int.reduceNeg, reduceCtorEq, e1, hw, encStr_length, Int.toNat_natCast, hgd, sz_mx, sz_nl] | (first | (refine hK _ ?_; clear hK K) | (clear hK K; refine hK _ ?_; clear hK K) | (clear hK K; clear hK K; refine hK _ ?_; clear hK K)) | refine And.intro ?_ ?_
        all_goals first | (refine hfin _ ?_; simp [StLe, leT, leH, A.Le, A.LeL, O.Le, lkp, freeT, freeH, A.free, A.freeL, cond_true, cond_false, nbeq, nble, nblt, decide_true, decide_false, Nat.reduceLT, Nat.reduceBEq, true_and, and_true, List.length_cons, List.length_nil, true_implies, and_self, Bool.and_true, Bool.true_and, Bool.and_self]; done) | (simp; done) | (clear hfin; omega)
      · have hil : i = p.mx.length := by omega
        subst hil
        have e1 : decide ((p.mx.length : Int) < p.mx.length) = false := decide_eq_false (Int.lt_irrefl _)
        rw [List.take_length]
        clear hK1 hstep hsn hm hb
        simp only [ageB, nlB]
        generalize mxT o p.mx = x at *
        generalize digB a = dg at *
        repeat' first | assumption | first | refine s_opt1 ?_ | refine s_opt0 ?_ | refine s_optq1 ?_ | refine s_optq0 ?_ | (refine s_norm ?_; try simp only [wsN, wsI, rmv, rng, X.ev, lkp, peel, cond_true, cond_false, nbeq, Nat.reduceBEq, Nat.reduceSub, Nat.reduceAdd, Nat.zero_add, Nat.sub_zero, Nat.sub_self, List.length_cons, List.length_nil, List.length_append, List.cons_append, List.nil_append, List.append_nil]) | (refine s_take fun K hK => ?_) | (refine s_cons (fun K hK => ?_) ?_) | exact s_tnil | refine s_br ?_ | refine s_done ?_ | refine s_seq fun K hK => ?_ | refine s_region ?_ | refine s_draw ?_ | refine s_tree ?_ | refine s_op fun K hK => ?_ | refine s_opq fun K hK => ?_ | refine s_ops ?_ | refine s_endq ?_ | simp only [go_sem, Int.reduceToNat, Int.reduceEq, Nat.reduceAdd, Nat.reduceBEq, Nat.reduceLeDiff, Nat.reduceLT, Int.reduceLT, Int.reduceLE, Int.reduceNeg, reduceCtorEq, e1, encStr_length, sz_age, sz_nl] | (first | (refine hK _ ?_; clear hK K) | (clear hK K; refine hK _ ?_; clear hK K) | (clear hK K; clear hK K; refine hK _ ?_; clear hK K)) | refine And.intro ?_ ?_ | refine s_call hdig ?_
        all_goals first | (simp [go_sem, tids, A.tid, A.tid.go, List.cons_append, frzT, St.frz, A.sub, A.subL, O.sub, subT, subH, frzY, frzZ, Post, aret, evRs, RV.ev, tupA, A.Le, A.LeL, lkp, St.frzs, St.frz, A.ids, A.idsL, cond_true, cond_false, nbeq, nble, decide_true, decide_false, Nat.reduceLeDiff, Nat.reduceBEq, Nat.reduceAdd, beq_self_eq_true, true_and, and_true, true_implies, List.append_nil, List.nil_append, List.getElem?_cons_zero, List.getElem?_cons_succ, List.length_cons, List.length_nil, List.drop_zero, List.take_succ_cons, List.take_zero, and_self]; done) | (simp; done) | (simp [go_sem, tids, A.tid, A.tid.go, List.cons_append, frzT, St.frz, A.sub, A.subL, O.sub, subT, subH, frzY, frzZ, Post, aret, evRs, RV.ev, tupA, A.Le, A.LeL, lkp, St.frzs, St.frz, A.ids, A.idsL, cond_true, cond_false, nbeq, nble, decide_true, decide_false, Nat.reduceLeDiff, Nat.reduceBEq, Nat.reduceAdd, beq_self_eq_true, true_and, and_true, true_implies, List.append_nil, List.nil_append, List.getElem?_cons_zero, List.getElem?_cons_succ, List.length_cons, List.length_nil, List.drop_zero, List.take_succ_cons, List.take_zero, and_self]; done) | exact Nat.le_of_add_le_add_right (b := 5) z1 | exact Nat.le_of_add_le_add_right (b := 1) z3 | (simp [go_sem, tids, A.tid, A.tid.go, List.cons_append, frzT, St.frz, A.sub, A.subL, O.sub, subT, subH, frzY, frzZ, Post, aret, evRs, RV.ev, tupA, A.Le, A.LeL, lkp, St.frzs, St.frz, A.ids, A.idsL, cond_true, cond_false, nbeq, nble, decide_true, decide_false, Nat.reduceLeDiff, Nat.reduceBEq, Nat.reduceAdd, beq_self_eq_true, true_and, and_true, true_implies, List.append_nil, List.nil_append, List.getElem?_cons_zero, List.getElem?_cons_succ, List.length_cons, List.length_nil, List.drop_zero, List.take_succ_cons, List.take_zero, and_self]; rfl)
end Go.Proofs.YtlddcimpdkcgeaaDoor
