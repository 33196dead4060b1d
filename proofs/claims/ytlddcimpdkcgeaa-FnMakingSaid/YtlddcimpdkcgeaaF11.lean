/- Terms that are equal; their size; what is signed. -/
import Derived.Test.YtlddcimpdkcgeaaF10
set_option linter.unusedVariables false
set_option maxRecDepth 20000
set_option maxHeartbeats 4000000
set_option linter.unusedSimpArgs false
namespace Go.Proofs.Ytlddcimpdkcgeaa
open Go.RowKit Sym
attribute [local irreducible] awp aops aopsQ gop gopQ gopO gopOQ gopV gopT awpN awpT awpTs ACall after

theorem beqS_iff {s t : ByteArray} : beqS s t = true ↔ s = t:=by
  constructor
  · intro h
    simp only [beqS,beq_iff_eq,ByteArray.toList_eq] at h
    cases s;cases t
    simp only [ByteArray.mk.injEq]
    exact Array.toList_inj.1 h
  · rintro rfl;exact beqS_refl s
mutual
theorem eqT_iff : ∀ (t u : Term),eqT t u = true ↔ t = u
  | .mk op n s kids,.mk op' n' s' kids' => by
    rw [eqT,Bool.and_eq_true,Bool.and_eq_true,Bool.and_eq_true]
    refine Iff.trans (and_congr decide_eq_true_iff (and_congr decide_eq_true_iff (and_congr beqS_iff (eqTs_iff kids kids')))) ?_
    rw [Term.mk.injEq]
    exact Iff.rfl
theorem eqTs_iff : ∀ (ts us : List Term),eqTs ts us = true ↔ ts = us
  | [],[] => by simp [eqTs]
  | t :: ts,u :: us => by rw [eqTs,Bool.and_eq_true,eqT_iff t u,eqTs_iff ts us,List.cons.injEq]
  | [],_ :: _ => by simp [eqTs]
  | _ :: _,[] => by simp [eqTs]
end
mutual
theorem size_nods : ∀ t : Term,t.nods ≤ 4611686018427387904 → t.size = t.nods
  | .mk op n s kids,h => by
    simp only [Term.nods] at h
    rw [Term.size,sizes_nods kids 1 (by omega) (by omega),Term.nods]
    omega
theorem sizes_nods : ∀ (ts : List Term) (k : Int),0 ≤ k → k + nodsL ts ≤ 4611686018427387904 → sizes k ts = k + nodsL ts
  | [],k,_,_ => by simp [sizes,nodsL]
  | t :: ts,k,h0,h => by
    simp only [nodsL] at h
    have ht:=size_nods t (by omega)
    rw [sizes,ht,w64 (by omega) (by omega),sizes_nods ts _ (by omega) (by omega),nodsL]
    omega
end
/-! ### What a right term is -/
theorem ok_right {t : Term} (h : okT t = true) : rightT t = true:=by
  unfold okT at h
  cases hd : decide (t.size ≤ 200) <;> simp [hd] at h
  exact h
theorem ok_size {t : Term} (h : okT t = true) : t.size ≤ 200:=by
  unfold okT at h
  cases hd : decide (t.size ≤ 200) with
  | true => simpa using hd
  | false => simp [hd] at h
theorem ok_iff {t : Term} : okT t = true ↔ t.size ≤ 200 ∧ rightT t = true:=by
  refine ⟨fun h => ⟨ok_size h,ok_right h⟩,fun h => ?_⟩
  unfold okT
  rw [decide_eq_true h.1,h.2]
  rfl
theorem right_iff {t : Term} : rightT t = true ↔ (t.kids.length : Int) = arityT t.op ∧ rightTs t.kids = true ∧ formT t.op t.n t.s t.kids = true:=by
  rw [rightT_eq]
  by_cases h : (t.kids.length : Int) = arityT t.op
  · cases hk : rightTs t.kids <;> simp [h]
  · simp [h]
theorem one_kid {t : Term} (h : rightT t = true) (ha : arityT t.op = 1) : ∃ x,t.kids = [x]:=by
  have:=(right_iff.1 h).1
  rw [ha] at this
  have hl : t.kids.length = 1:=by omega
  match t.kids,hl with
  | [x],_ => exact ⟨x,rfl⟩
theorem cnt_mem {t x : Term} (hx : x ∈ t.kids) : x.cnt ≤ t.cnt:=by have:=Term.cnt_eq t;have:=cnts_mem hx;omega
/-- Of an op that is neither an atom nor a text nor a share. -/
theorem form_plain {op n : Int} {s : ByteArray} {kids : List Term} (h1 : op ≠ 1) (h2 : op ≠ 2) (h5 : op ≠ 5) : formT op n s kids = true ↔ n = 0 ∧ s = ⟨#[]⟩:=by
  unfold formT
  rw [if_neg h1,if_neg h2,if_neg h5]
  by_cases hn : n = 0
  · simp [hn,beqS_iff]
  · simp [hn]

theorem op_mk (op n : Int) (s : ByteArray) (ks : List Term) : (Term.mk op n s ks).op = op:=rfl
theorem n_mk (op n : Int) (s : ByteArray) (ks : List Term) : (Term.mk op n s ks).n = n:=rfl
theorem s_mk (op n : Int) (s : ByteArray) (ks : List Term) : (Term.mk op n s ks).s = s:=rfl
theorem kids_mk (op n : Int) (s : ByteArray) (ks : List Term) : (Term.mk op n s ks).kids = ks:=rfl
@[reducible] def optV (o : Option Term) : A:=.tup [(o.getD noT).v,.d true (.bool o.isSome)]
end Go.Proofs.Ytlddcimpdkcgeaa
