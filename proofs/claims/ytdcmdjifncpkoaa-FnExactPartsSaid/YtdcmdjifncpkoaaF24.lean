/- What can be taken apart, and what follows of it: over lists alone. -/
import Derived.Test.YtdcmdjifncpkoaaF15
set_option linter.unusedVariables false
set_option linter.unusedSimpArgs false
set_option maxRecDepth 20000
set_option maxHeartbeats 4000000
namespace Go.Proofs.Ytdcmdjifncpkoaa
open Go Go.RowKit Sym

/-! ### What is right has right kids -/
theorem ok_nods {t : Term} (h : okT t = true) (hb : t.nods ≤ 4611686018427387904) : t.nods ≤ 200 := by
  have := ok_size h
  rw [size_nods t hb] at this
  omega
theorem ok_of_nods {t : Term} (h : rightT t = true) (hn : t.nods ≤ 200) : okT t = true := ok_iff.2 ⟨by rw [size_nods t (by omega)]; omega, h⟩
/-- Right, and of at most 200. -/
def fineT (t : Term) : Prop := rightT t = true ∧ t.nods ≤ 200
theorem fine_ok {t : Term} (h : fineT t) : okT t = true := ok_of_nods h.1 h.2
theorem fine_kid {t x : Term} (h : fineT t) (hx : x ∈ t.kids) : fineT x := by
  refine ⟨right_mem h.1 hx, ?_⟩
  have := nods_kid (n := 199) h.2 hx
  omega

/-! ### Taking apart -/
def addT (l : List Term) (x : Term) : List Term := bif decide (300 ≤ l.length) then l else bif hasT l x then l else l ++ [x]
def apartT (l : List Term) (t : Term) : List Term := if t.op = 3 then t.kids else if t.op = 8 then t.kids.drop 1 else if t.op = 7 then (match t.kids with | k :: r => bif madeB l k then r else [] | [] => []) else []
def addsT (l : List Term) (xs : List Term) : List Term := xs.foldl addT l
def passN : Nat → List Term → Nat → List Term
  | 0, l, _ => l
  | k + 1, l, i => match l[i]? with
    | none => l
    | some t => passN k (addsT l (apartT l t)) (i + 1)
def roundsN : Nat → List Term → List Term
  | 0, l => l
  | k + 1, l => bif decide ((passN 301 l 0).length = l.length) then passN 301 l 0 else roundsN k (passN 301 l 0)
def firstT (ts : List Term) : List Term := addsT [] (ts.filter okT)
def partsT (ts : List Term) : List Term := roundsN 301 (firstT ts)

theorem addT_mem {l : List Term} {x t : Term} (h : t ∈ addT l x) : t ∈ l ∨ t = x := by
  unfold addT at h
  cases hd : decide (300 ≤ l.length) with
  | true => rw [hd] at h; exact .inl h
  | false =>
    rw [hd] at h
    cases hh : hasT l x with
    | true => rw [hh] at h; exact .inl h
    | false => rw [hh] at h; simpa using h
theorem addT_len (l : List Term) (x : Term) : l.length ≤ (addT l x).length ∧ (addT l x).length ≤ l.length + 1 ∧ (l.length ≤ 300 → (addT l x).length ≤ 300) := by
  unfold addT
  cases hd : decide (300 ≤ l.length) with
  | true => simp
  | false =>
    have := of_decide_eq_false hd
    cases hasT l x with
    | true => simp
    | false => simp; omega
theorem addsT_mem {xs : List Term} : ∀ {l : List Term} {t : Term}, t ∈ addsT l xs → t ∈ l ∨ t ∈ xs := by
  induction xs with
  | nil => exact fun h => .inl h
  | cons x xs ih =>
    intro l t h
    rcases ih (l := addT l x) h with h | h
    · rcases addT_mem h with h | h
      · exact .inl h
      · exact .inr (by simp [h])
    · exact .inr (by simp [h])
theorem addsT_len (xs : List Term) : ∀ (l : List Term), l.length ≤ (addsT l xs).length ∧ (l.length ≤ 300 → (addsT l xs).length ≤ 300) := by
  induction xs with
  | nil => exact fun l => ⟨Nat.le_refl _, fun h => h⟩
  | cons x xs ih =>
    intro l
    have h1 := addT_len l x
    have h2 := ih (addT l x)
    exact ⟨Nat.le_trans h1.1 h2.1, fun h => h2.2 (h1.2.2 h)⟩
/-! ### A property that parts keep -/
theorem apartT_mem {l : List Term} {t x : Term} (h : x ∈ apartT l t) : x ∈ t.kids := by
  unfold apartT at h
  split at h
  · exact h
  split at h
  · exact List.mem_of_mem_drop h
  split at h
  · split at h
    · rename_i k r hk
      rw [hk]
      cases hm : madeB l k with
      | true => rw [hm] at h; exact List.mem_cons_of_mem _ h
      | false => rw [hm] at h; cases h
    · cases h
  · cases h
theorem passN_all {Pd : Term → Prop} (hc : ∀ l : List Term, (∀ x, x ∈ l → Pd x) → ∀ t, Pd t → ∀ x, x ∈ apartT l t → Pd x) : ∀ (k : Nat) (l : List Term) (i : Nat), (∀ x, x ∈ l → Pd x) → ∀ x, x ∈ passN k l i → Pd x := by
  intro k
  induction k with
  | zero => exact fun l i h => h
  | succ k ih =>
    intro l i h
    unfold passN
    split
    · exact h
    · rename_i t ht
      refine ih _ _ (fun x hx => ?_)
      rcases addsT_mem hx with hx | hx
      · exact h x hx
      · exact hc l h t (h t (List.mem_of_getElem? ht)) x hx
theorem roundsN_all {Pd : Term → Prop} (hc : ∀ l : List Term, (∀ x, x ∈ l → Pd x) → ∀ t, Pd t → ∀ x, x ∈ apartT l t → Pd x) : ∀ (k : Nat) (l : List Term), (∀ x, x ∈ l → Pd x) → ∀ x, x ∈ roundsN k l → Pd x := by
  intro k
  induction k with
  | zero => exact fun l h => h
  | succ k ih =>
    intro l h
    have hp := passN_all hc 301 l 0 h
    unfold roundsN
    cases decide ((passN 301 l 0).length = l.length) with
    | true => exact hp
    | false => exact ih _ hp
theorem partsT_all {Pd : Term → Prop} (hc : ∀ l : List Term, (∀ x, x ∈ l → Pd x) → ∀ t, Pd t → ∀ x, x ∈ apartT l t → Pd x) (ts : List Term) (h : ∀ t, t ∈ ts → okT t = true → Pd t) : ∀ x, x ∈ partsT ts → Pd x := by
  refine roundsN_all hc _ _ (fun x hx => ?_)
  rcases addsT_mem hx with hx | hx
  · cases hx
  · rw [List.mem_filter] at hx
    exact h x hx.1 hx.2

/-! ### What stays -/
theorem passN_len (k : Nat) : ∀ (l : List Term) (i : Nat), l.length ≤ (passN k l i).length ∧ (l.length ≤ 300 → (passN k l i).length ≤ 300) := by
  induction k with
  | zero => exact fun l i => ⟨Nat.le_refl _, fun h => h⟩
  | succ k ih =>
    intro l i
    unfold passN
    split
    · exact ⟨Nat.le_refl _, fun h => h⟩
    · rename_i t ht
      have h1 := addsT_len (apartT l t) l
      have h2 := ih (addsT l (apartT l t)) (i + 1)
      exact ⟨Nat.le_trans h1.1 h2.1, fun h => h2.2 (h1.2 h)⟩
theorem roundsN_len (k : Nat) : ∀ (l : List Term), l.length ≤ (roundsN k l).length ∧ (l.length ≤ 300 → (roundsN k l).length ≤ 300) := by
  induction k with
  | zero => exact fun l => ⟨Nat.le_refl _, fun h => h⟩
  | succ k ih =>
    intro l
    have h1 := passN_len 301 l 0
    unfold roundsN
    cases decide ((passN 301 l 0).length = l.length) with
    | true => exact h1
    | false =>
      have h2 := ih (passN 301 l 0)
      exact ⟨Nat.le_trans h1.1 h2.1, fun h => h2.2 (h1.2 h)⟩
theorem firstT_len (ts : List Term) : (firstT ts).length ≤ 300 := (addsT_len _ _).2 (by simp)
theorem partsT_len (ts : List Term) : (partsT ts).length ≤ 300 := (roundsN_len _ _).2 (firstT_len ts)
/-! ### Closed -/
/-- What is right, all of it. -/
theorem partsT_ok {ts : List Term} (h : ∀ t, t ∈ ts → okT t = true → fineT t) : ∀ x, x ∈ partsT ts → fineT x :=
  partsT_all (fun l hl t ht x hx => fine_kid ht (apartT_mem hx)) ts h
end Go.Proofs.Ytdcmdjifncpkoaa
