/- What can be taken apart, and what follows of it: over lists alone. -/
import Derived.Test.YtlddcimpdkcgeaaDoorF15
set_option linter.unusedVariables false
set_option linter.unusedSimpArgs false
set_option maxRecDepth 20000
set_option maxHeartbeats 4000000
namespace Go.Proofs.YtlddcimpdkcgeaaDoor
open Go Go.RowKit Sym

theorem hasT_iff {ps : List Term} {t : Term} : hasT ps t = true ↔ t ∈ ps:=by
  unfold hasT
  rw [List.any_eq_true]
  constructor
  · rintro ⟨x,hx,he⟩
    rw [← (eqT_iff x t).1 he];exact hx
  · intro h
    exact ⟨t,h,eqT_refl t⟩
theorem hasT_no {ps : List Term} {t : Term} : hasT ps t = false ↔ t ∉ ps:=by
  rw [← hasT_iff]
  cases hasT ps t <;> simp
theorem andB_iff {a b : Bool} : andB a b = true ↔ a = true ∧ b = true:=by cases a <;> cases b <;> simp [andB]

/-- What is made of fewer is made of more, as far as what is looked at goes (R: what may be looked at). -/
theorem madeN_of {ps qs : List Term} {R : Term → Prop} (hk : ∀ t,R t → ∀ x,x ∈ t.kids → R x) (hp : ∀ t,R t → R (pubOf t)) (hh : ∀ t,R t → t.op ≠ 2 → t ∈ ps → t ∈ qs) : ∀ (n : Nat) (t : Term),R t → madeN ps n t = true → madeN qs n t = true:=by
  intro n
  induction n with
  | zero => intro t _ h;simp [madeN] at h
  | succ n ih =>
    intro t hR h
    rw [madeN_succ] at h ⊢
    by_cases h2 : t.op = 2
    · simp [h2]
    · rw [decide_eq_false h2] at h ⊢
      simp only [cond_false] at h ⊢
      cases hb : hasT ps t with
      | true =>
        have:=hh t hR h2 (hasT_iff.1 hb)
        rw [hasT_iff.2 this]
        rfl
      | false =>
        rw [hb] at h
        simp only [cond_false] at h
        cases hq : hasT qs t with
        | true => rfl
        | false =>
          simp only [cond_false]
          by_cases h1 : t.op = 1
          · rw [decide_eq_true h1] at h;cases h
          · rw [decide_eq_false h1] at h ⊢
            simp only [cond_false] at h ⊢
            by_cases h5 : t.op = 5
            · rw [decide_eq_true h5] at h ⊢
              simp only [cond_true] at h ⊢
              split at h
              · rename_i a b hkk
                have hRa:=hk t hR a (by rw [hkk];simp)
                have hRb:=hk t hR b (by rw [hkk];simp)
                cases h3 : andB (madeN ps n a) (madeN ps n (pubOf b)) with
                | true =>
                  obtain ⟨g1,g2⟩:=andB_iff.1 h3
                  have : andB (madeN qs n a) (madeN qs n (pubOf b)) = true:=andB_iff.2 ⟨ih a hRa g1,ih _ (hp b hRb) g2⟩
                  rw [this];rfl
                | false =>
                  rw [h3] at h
                  simp only [cond_false] at h
                  obtain ⟨g1,g2⟩:=andB_iff.1 h
                  have : andB (madeN qs n b) (madeN qs n (pubOf a)) = true:=andB_iff.2 ⟨ih b hRb g1,ih _ (hp a hRa) g2⟩
                  rw [this]
                  cases andB (madeN qs n a) (madeN qs n (pubOf b)) <;> rfl
              · cases h
            · rw [decide_eq_false h5] at h ⊢
              simp only [cond_false] at h ⊢
              rw [List.all_eq_true] at h ⊢
              exact fun x hx => ih x (hk t hR x hx) (h x hx)
theorem madeB_has {ps : List Term} {t : Term} (ho : okT t = true) (h : t ∈ ps) : madeB ps t = true:=by
  unfold madeB
  rw [ho,cond_true]
  obtain ⟨n,hn⟩ : ∃ n,t.nods = n + 1:=⟨t.nods - 1,by have:=nods_pos t;omega⟩
  rw [hn,madeN_succ,hasT_iff.2 h]
  cases decide (t.op = 2) <;> rfl

/-! ### What is right has right kids -/
theorem ok_nods {t : Term} (h : okT t = true) (hb : t.nods ≤ 4611686018427387904) : t.nods ≤ 200:=by
  have:=ok_size h
  rw [size_nods t hb] at this
  omega
theorem ok_of_nods {t : Term} (h : rightT t = true) (hn : t.nods ≤ 200) : okT t = true:=ok_iff.2 ⟨by rw [size_nods t (by omega)];omega,h⟩
/-- Right, and of at most 200. -/
def fineT (t : Term) : Prop:=rightT t = true ∧ t.nods ≤ 200
theorem fine_ok {t : Term} (h : fineT t) : okT t = true:=ok_of_nods h.1 h.2
theorem fine_kid {t x : Term} (h : fineT t) (hx : x ∈ t.kids) : fineT x:=by
  refine ⟨right_mem h.1 hx,?_⟩
  have:=nods_kid (n:=199) h.2 hx
  omega

/-! ### Taking apart -/
def addT (l : List Term) (x : Term) : List Term:=bif decide (300 ≤ l.length) then l else bif hasT l x then l else l ++ [x]
def apartT (l : List Term) (t : Term) : List Term:=if t.op = 3 then t.kids else if t.op = 8 then t.kids.drop 1 else if t.op = 7 then (match t.kids with|k :: r => bif madeB l k then r else []|[] => []) else []
def addsT (l : List Term) (xs : List Term) : List Term:=xs.foldl addT l
def passN : Nat → List Term → Nat → List Term
  | 0,l,_ => l
  | k + 1,l,i => match l[i]? with
    | none => l
    | some t => passN k (addsT l (apartT l t)) (i + 1)
def roundsN : Nat → List Term → List Term
  | 0,l => l
  | k + 1,l => bif decide ((passN 301 l 0).length = l.length) then passN 301 l 0 else roundsN k (passN 301 l 0)
def firstT (ts : List Term) : List Term:=addsT [] (ts.filter okT)
def partsT (ts : List Term) : List Term:=roundsN 301 (firstT ts)

theorem addT_sub {l : List Term} {x t : Term} (h : t ∈ l) : t ∈ addT l x:=by
  unfold addT
  cases decide (300 ≤ l.length) with
  | true => exact h
  | false => cases hasT l x with
    | true => exact h
    | false => simp [h]
theorem addT_mem {l : List Term} {x t : Term} (h : t ∈ addT l x) : t ∈ l ∨ t = x:=by
  unfold addT at h
  cases hd : decide (300 ≤ l.length) with
  | true => rw [hd] at h;exact .inl h
  | false =>
    rw [hd] at h
    cases hh : hasT l x with
    | true => rw [hh] at h;exact .inl h
    | false => rw [hh] at h;simpa using h
theorem addT_len (l : List Term) (x : Term) : l.length ≤ (addT l x).length ∧ (addT l x).length ≤ l.length + 1 ∧ (l.length ≤ 300 → (addT l x).length ≤ 300):=by
  unfold addT
  cases hd : decide (300 ≤ l.length) with
  | true => simp
  | false =>
    have:=of_decide_eq_false hd
    cases hasT l x with
    | true => simp
    | false => simp;omega
theorem addT_fix {l : List Term} {x : Term} (h : (addT l x).length = l.length) : addT l x = l:=by
  unfold addT at h ⊢
  cases hd : decide (300 ≤ l.length) with
  | true => rfl
  | false =>
    rw [hd] at h
    cases hh : hasT l x with
    | true => rfl
    | false => rw [hh] at h;simp at h
theorem addT_in {l : List Term} {x : Term} (h : (addT l x).length < 300) : x ∈ addT l x:=by
  unfold addT at h ⊢
  cases hd : decide (300 ≤ l.length) with
  | true => rw [hd] at h;have:=of_decide_eq_true hd;simp at h;omega
  | false =>
    simp only [cond_false]
    cases hh : hasT l x with
    | true => exact hasT_iff.1 hh
    | false => simp
theorem addT_nodup {l : List Term} {x : Term} (h : l.Nodup) : (addT l x).Nodup:=by
  unfold addT
  cases decide (300 ≤ l.length) with
  | true => exact h
  | false =>
    simp only [cond_false]
    cases hh : hasT l x with
    | true => exact h
    | false =>
      simp only [cond_false]
      rw [List.nodup_append]
      refine ⟨h,by simp,fun a ha b hb => ?_⟩
      simp only [List.mem_singleton] at hb
      subst hb
      intro e
      subst e
      exact hasT_no.1 hh ha

theorem addsT_sub {xs : List Term} : ∀ {l : List Term} {t : Term},t ∈ l → t ∈ addsT l xs:=by
  induction xs with
  | nil => exact fun h => h
  | cons x xs ih => exact fun h => ih (addT_sub h)
theorem addsT_mem {xs : List Term} : ∀ {l : List Term} {t : Term},t ∈ addsT l xs → t ∈ l ∨ t ∈ xs:=by
  induction xs with
  | nil => exact fun h => .inl h
  | cons x xs ih =>
    intro l t h
    rcases ih (l:=addT l x) h with h|h
    · rcases addT_mem h with h|h
      · exact .inl h
      · exact .inr (by simp [h])
    · exact .inr (by simp [h])
theorem addsT_len (xs : List Term) : ∀ (l : List Term),l.length ≤ (addsT l xs).length ∧ (l.length ≤ 300 → (addsT l xs).length ≤ 300):=by
  induction xs with
  | nil => exact fun l => ⟨Nat.le_refl _,fun h => h⟩
  | cons x xs ih =>
    intro l
    have h1:=addT_len l x
    have h2:=ih (addT l x)
    exact ⟨Nat.le_trans h1.1 h2.1,fun h => h2.2 (h1.2.2 h)⟩
theorem addsT_fix {xs : List Term} : ∀ {l : List Term},(addsT l xs).length = l.length → addsT l xs = l:=by
  induction xs with
  | nil => exact fun _ => rfl
  | cons x xs ih =>
    intro l h
    have h1:=addT_len l x
    have h2:=addsT_len xs (addT l x)
    have h3 : (addT l x).length = l.length:=by
      have : (addsT (addT l x) xs).length = l.length:=h
      omega
    have h4:=addT_fix h3
    show addsT (addT l x) xs = l
    rw [h4]
    exact ih (by rw [← h4];exact h.trans (by rw [h4]))
theorem addsT_in {xs : List Term} : ∀ {l : List Term},(addsT l xs).length < 300 → ∀ x,x ∈ xs → x ∈ addsT l xs:=by
  induction xs with
  | nil => exact fun _ x hx => by cases hx
  | cons y xs ih =>
    intro l h x hx
    have h2:=addsT_len xs (addT l y)
    rcases List.mem_cons.1 hx with rfl|hx
    · exact addsT_sub (xs:=xs) (addT_in (by have : (addsT (addT l x) xs).length < 300:=h;omega))
    · exact ih h x hx
theorem addsT_nodup {xs : List Term} : ∀ {l : List Term},l.Nodup → (addsT l xs).Nodup:=by
  induction xs with
  | nil => exact fun h => h
  | cons y xs ih => exact fun h => ih (addT_nodup h)
/-! ### A property that parts keep -/
theorem apartT_mem {l : List Term} {t x : Term} (h : x ∈ apartT l t) : x ∈ t.kids:=by
  unfold apartT at h
  split at h
  · exact h
  split at h
  · exact List.mem_of_mem_drop h
  split at h
  · split at h
    · rename_i k r hk
      rw [hk]
      cases hm : madeB l k with
      | true => rw [hm] at h;exact List.mem_cons_of_mem _ h
      | false => rw [hm] at h;cases h
    · cases h
  · cases h
theorem passN_all {Pd : Term → Prop} (hc : ∀ l : List Term,(∀ x,x ∈ l → Pd x) → ∀ t,Pd t → ∀ x,x ∈ apartT l t → Pd x) : ∀ (k : Nat) (l : List Term) (i : Nat),(∀ x,x ∈ l → Pd x) → ∀ x,x ∈ passN k l i → Pd x:=by
  intro k
  induction k with
  | zero => exact fun l i h => h
  | succ k ih =>
    intro l i h
    unfold passN
    split
    · exact h
    · rename_i t ht
      refine ih _ _ (fun x hx => ?_)
      rcases addsT_mem hx with hx|hx
      · exact h x hx
      · exact hc l h t (h t (List.mem_of_getElem? ht)) x hx
theorem roundsN_all {Pd : Term → Prop} (hc : ∀ l : List Term,(∀ x,x ∈ l → Pd x) → ∀ t,Pd t → ∀ x,x ∈ apartT l t → Pd x) : ∀ (k : Nat) (l : List Term),(∀ x,x ∈ l → Pd x) → ∀ x,x ∈ roundsN k l → Pd x:=by
  intro k
  induction k with
  | zero => exact fun l h => h
  | succ k ih =>
    intro l h
    have hp:=passN_all hc 301 l 0 h
    unfold roundsN
    cases decide ((passN 301 l 0).length = l.length) with
    | true => exact hp
    | false => exact ih _ hp
theorem partsT_all {Pd : Term → Prop} (hc : ∀ l : List Term,(∀ x,x ∈ l → Pd x) → ∀ t,Pd t → ∀ x,x ∈ apartT l t → Pd x) (ts : List Term) (h : ∀ t,t ∈ ts → okT t = true → Pd t) : ∀ x,x ∈ partsT ts → Pd x:=by
  refine roundsN_all hc _ _ (fun x hx => ?_)
  rcases addsT_mem hx with hx|hx
  · cases hx
  · rw [List.mem_filter] at hx
    exact h x hx.1 hx.2

/-! ### What stays -/
theorem passN_sub {k : Nat} : ∀ {l : List Term} {i : Nat} {t : Term},t ∈ l → t ∈ passN k l i:=by
  induction k with
  | zero => exact fun h => h
  | succ k ih =>
    intro l i t h
    unfold passN
    split
    · exact h
    · exact ih (addsT_sub h)
theorem roundsN_sub {k : Nat} : ∀ {l : List Term} {t : Term},t ∈ l → t ∈ roundsN k l:=by
  induction k with
  | zero => exact fun h => h
  | succ k ih =>
    intro l t h
    unfold roundsN
    cases decide ((passN 301 l 0).length = l.length) with
    | true => exact passN_sub h
    | false => exact ih (passN_sub h)
theorem passN_len (k : Nat) : ∀ (l : List Term) (i : Nat),l.length ≤ (passN k l i).length ∧ (l.length ≤ 300 → (passN k l i).length ≤ 300):=by
  induction k with
  | zero => exact fun l i => ⟨Nat.le_refl _,fun h => h⟩
  | succ k ih =>
    intro l i
    unfold passN
    split
    · exact ⟨Nat.le_refl _,fun h => h⟩
    · rename_i t ht
      have h1:=addsT_len (apartT l t) l
      have h2:=ih (addsT l (apartT l t)) (i + 1)
      exact ⟨Nat.le_trans h1.1 h2.1,fun h => h2.2 (h1.2 h)⟩
theorem roundsN_len (k : Nat) : ∀ (l : List Term),l.length ≤ (roundsN k l).length ∧ (l.length ≤ 300 → (roundsN k l).length ≤ 300):=by
  induction k with
  | zero => exact fun l => ⟨Nat.le_refl _,fun h => h⟩
  | succ k ih =>
    intro l
    have h1:=passN_len 301 l 0
    unfold roundsN
    cases decide ((passN 301 l 0).length = l.length) with
    | true => exact h1
    | false =>
      have h2:=ih (passN 301 l 0)
      exact ⟨Nat.le_trans h1.1 h2.1,fun h => h2.2 (h1.2 h)⟩
theorem passN_nodup {k : Nat} : ∀ {l : List Term} {i : Nat},l.Nodup → (passN k l i).Nodup:=by
  induction k with
  | zero => exact fun h => h
  | succ k ih =>
    intro l i h
    unfold passN
    split
    · exact h
    · exact ih (addsT_nodup h)
theorem roundsN_nodup {k : Nat} : ∀ {l : List Term},l.Nodup → (roundsN k l).Nodup:=by
  induction k with
  | zero => exact fun h => h
  | succ k ih =>
    intro l h
    unfold roundsN
    cases decide ((passN 301 l 0).length = l.length) with
    | true => exact passN_nodup h
    | false => exact ih (passN_nodup h)
theorem firstT_len (ts : List Term) : (firstT ts).length ≤ 300:=(addsT_len _ _).2 (by simp)
theorem partsT_len (ts : List Term) : (partsT ts).length ≤ 300:=(roundsN_len _ _).2 (firstT_len ts)
theorem partsT_nodup (ts : List Term) : (partsT ts).Nodup:=roundsN_nodup (addsT_nodup List.nodup_nil)
theorem partsT_sub {ts : List Term} {t : Term} (h : t ∈ firstT ts) : t ∈ partsT ts:=roundsN_sub h

/-! ### Closed -/
def Closed (l : List Term) : Prop:=∀ t,t ∈ l → ∀ x,x ∈ apartT l t → x ∈ l
theorem passN_fix (k : Nat) : ∀ {l : List Term} {i : Nat},(passN k l i).length = l.length → passN k l i = l ∧ ∀ j,i ≤ j → j < i + k → ∀ t,l[j]? = some t → addsT l (apartT l t) = l:=by
  induction k with
  | zero => exact fun _ => ⟨rfl,fun j h1 h2 => by omega⟩
  | succ k ih =>
    intro l i h
    unfold passN at h ⊢
    split at h
    · rename_i hn
      refine ⟨rfl,fun j h1 h2 t ht => ?_⟩
      have h3:=List.getElem?_eq_none_iff.1 hn
      have h4:=(List.getElem?_eq_some_iff.1 ht).1
      omega
    · rename_i t ht
      have h1:=addsT_len (apartT l t) l
      have h2:=passN_len k (addsT l (apartT l t)) (i + 1)
      have h3:=addsT_fix (l:=l) (xs:=apartT l t) (by omega)
      rw [h3] at h ⊢
      have h4:=ih h
      refine ⟨h4.1,fun j h5 h6 u hu => ?_⟩
      rcases Nat.eq_or_lt_of_le h5 with rfl|h5
      · rw [ht] at hu
        injection hu with hu
        rw [← hu];exact h3
      · exact h4.2 j h5 (by omega) u hu
theorem roundsN_end (k : Nat) : ∀ {l : List Term},l.length ≤ 300 → 301 ≤ l.length + k → (passN 301 (roundsN k l) 0).length = (roundsN k l).length:=by
  induction k with
  | zero => intro l h1 h2;omega
  | succ k ih =>
    intro l h1 h2
    unfold roundsN
    cases hd : decide ((passN 301 l 0).length = l.length) with
    | true =>
      have h3:=of_decide_eq_true hd
      have h4:=(passN_fix 301 h3).1
      simp only [cond_true]
      rw [h4,h3]
    | false =>
      have h3:=of_decide_eq_false hd
      have h4:=passN_len 301 l 0
      simp only [cond_false]
      exact ih (h4.2 h1) (by omega)
theorem partsT_closed {ts : List Term} (h : (partsT ts).length < 300) : Closed (partsT ts):=by
  have h1:=roundsN_end 301 (l:=firstT ts) (firstT_len ts) (by omega)
  have h2:=(passN_fix 301 h1).2
  intro t ht x hx
  obtain ⟨j,hj⟩:=List.getElem?_of_mem ht
  have h3:=(List.getElem?_eq_some_iff.1 hj).1
  have h4 : addsT (partsT ts) (apartT (partsT ts) t) = partsT ts:=h2 j (Nat.zero_le _) (by have:=partsT_len ts;omega) t hj
  have h5:=addsT_in (l:=partsT ts) (xs:=apartT (partsT ts) t) (by rw [h4];exact h) x hx
  rwa [h4] at h5
theorem first_in {ts : List Term} {t : Term} (ht : t ∈ ts) (ho : okT t = true) (h : (firstT ts).length < 300) : t ∈ firstT ts :=
  addsT_in h t (List.mem_filter.2 ⟨ht,ho⟩)
theorem addsT_short (xs : List Term) : ∀ (l : List Term),(addsT l xs).length ≤ l.length + xs.length:=by
  induction xs with
  | nil => exact fun l => Nat.le_refl _
  | cons x xs ih =>
    intro l
    have h1:=addT_len l x
    have h2:=ih (addT l x)
    show (addsT (addT l x) xs).length ≤ _
    rw [List.length_cons]
    omega
theorem first_short (ts : List Term) : (firstT ts).length ≤ ts.length:=by
  have h1:=addsT_short (ts.filter okT) []
  have h2:=List.length_filter_le okT ts
  unfold firstT
  simp only [List.length_nil] at h1
  omega
def canT (ts : List Term) (t : Term) : Bool:=madeB (partsT ts) t
end Go.Proofs.YtlddcimpdkcgeaaDoor
