/- What a certificate's term holds: over terms. -/
import Derived.Test.YtlddcimpdkcgeaaGreatDoorE3
import Derived.Test.YtlddcimpdkcgeaaGreatDoorD14
import Derived.Test.YtlddcimpdkcgeaaGreatDoorF13
set_option linter.unusedVariables false
set_option linter.unusedSimpArgs false
set_option maxRecDepth 20000
set_option maxHeartbeats 4000000
namespace Go.Proofs.YtlddcimpdkcgeaaGreatDoor
open Go Go.RowKit Sym
def caP : Term:=pubT caT
theorem twoT_some {t a b : Term} (h : twoT t = some (a,b)) : t.op = 3 ∧ t.kids = [a,b]:=by
  unfold twoT at h
  split at h
  · rename_i x y hk
    split at h
    · rename_i h3
      simp only [Option.some.injEq,Prod.mk.injEq] at h
      obtain ⟨rfl,rfl⟩:=h
      exact ⟨h3,hk⟩
    · cases h
  · cases h
theorem signed_some {p t y : Term} (h : signedT p t = some y) : okT t = true ∧ t.op = 8 ∧ ∃ x,t.kids = [x,y]:=by
  unfold signedT at h
  split at h
  · rename_i x z hk
    split at h
    · rename_i h3
      simp only [Option.some.injEq] at h
      subst h
      exact ⟨h3.1,h3.2.1,x,hk⟩
    · cases h
  · cases h
def openC (t : Term) : Option (Term × Term × Term):=match signedT caP t with
  | none => none
  | some x => match twoT x with
    | none => none
    | some (a,b) => match twoT b with
      | none => none
      | some (p,u) => some (a,p,u)
def certOfT (t : Term) : Option Cert:=match openC t with
  | none => none
  | some (a,p,u) => bif certB ⟨a.s,p,numB u.s⟩ && eqT (certT ⟨a.s,p,numB u.s⟩) t then some ⟨a.s,p,numB u.s⟩ else none
theorem openC_some {t a p u : Term} (h : openC t = some (a,p,u)) : ∃ x b,signedT caP t = some x ∧ twoT x = some (a,b) ∧ twoT b = some (p,u):=by
  unfold openC at h
  split at h
  · cases h
  · rename_i x hx
    split at h
    · cases h
    · rename_i a' b hab
      split at h
      · cases h
      · rename_i p' u' hpu
        simp only [Option.some.injEq,Prod.mk.injEq] at h
        obtain ⟨rfl,rfl,rfl⟩:=h
        exact ⟨x,b,hx,hab,hpu⟩
theorem certB_til {c : Cert} (h : certB c = true) : 0 ≤ c.til ∧ c.til ≤ 100000:=by
  unfold certB betw at h
  cases h1 : hostB c.host 2 with
  | false => rw [h1] at h;cases h
  | true =>
    rw [h1] at h
    by_cases h2 : c.pub.op = 4
    · rw [decide_eq_true h2] at h
      cases h3 : okT c.pub with
      | false => rw [h3] at h;cases h
      | true =>
        rw [h3] at h
        by_cases h4 : 0 ≤ c.til
        · by_cases h5 : c.til ≤ 100000
          · exact ⟨h4,h5⟩
          · rw [decide_eq_true h4,decide_eq_false h5] at h;cases h
        · rw [decide_eq_false h4] at h;cases h
    · rw [decide_eq_false h2] at h;cases h
theorem rightOr_not0 {t : Term} (h : (rightOr t).op ≠ 0) : rightOr t = t:=by
  unfold rightOr at h ⊢
  cases ho : okT t with
  | true => rfl
  | false => rw [ho] at h;exact absurd rfl h
theorem certT_open {c : Cert} {a p u : Term} (h8 : (certT c).op = 8) (h : openC (certT c) = some (a,p,u)) : certB c = true ∧ a = textT c.host ∧ p = c.pub ∧ u = numT c.til:=by
  unfold certT at h8 h
  cases hb : certB c with
  | false =>
    rw [hb] at h8
    have h8 : noT.op = 8:=h8
    exact absurd h8 (by decide)
  | true =>
    rw [hb] at h8 h
    simp only [cond_true] at h8 h
    have e1:=rightOr_not0 (t:=.mk 8 0 ⟨#[]⟩ [caT,bodyT c]) (by rw [h8];decide)
    rw [e1] at h
    obtain ⟨x,b,hx,hab,hpu⟩:=openC_some h
    obtain ⟨_,_,z,hk⟩:=signed_some hx
    have hxb : x = bodyT c:=by
      simp only [Term.kids,List.cons.injEq,and_true] at hk
      exact hk.2.symm
    subst hxb
    obtain ⟨g1,g2⟩:=twoT_some hab
    have e2 : bodyT c = .mk 3 0 ⟨#[]⟩ [textT c.host,pairT c.pub (numT c.til)]:=rightOr_not0 (t:=.mk 3 0 ⟨#[]⟩ [textT c.host,pairT c.pub (numT c.til)]) (by show (bodyT c).op ≠ 0;rw [g1];decide)
    rw [e2] at g2
    simp only [Term.kids,List.cons.injEq,and_true] at g2
    obtain ⟨rfl,rfl⟩:=g2
    obtain ⟨g3,g4⟩:=twoT_some hpu
    have e3 : pairT c.pub (numT c.til) = .mk 3 0 ⟨#[]⟩ [c.pub,numT c.til]:=rightOr_not0 (t:=.mk 3 0 ⟨#[]⟩ [c.pub,numT c.til]) (by show (pairT c.pub (numT c.til)).op ≠ 0;rw [g3];decide)
    rw [e3] at g4
    simp only [Term.kids,List.cons.injEq,and_true] at g4
    exact ⟨rfl,rfl,g4.1.symm,g4.2.symm⟩
theorem certOf_impl {t a p u : Term} (h : openC t = some (a,p,u)) :
    certOfT t = bif !atoiE u.s && (decide ((certT ⟨a.s,p,atoiN u.s⟩).op = 8) && eqT (certT ⟨a.s,p,atoiN u.s⟩) t) then some ⟨a.s,p,atoiN u.s⟩ else none:=by
  have h8 : t.op = 8:=by
    obtain ⟨x,b,hx,_,_⟩:=openC_some h
    exact (signed_some hx).2.1
  have hR : (certB ⟨a.s,p,numB u.s⟩ && eqT (certT ⟨a.s,p,numB u.s⟩) t) = true → atoiN u.s = numB u.s ∧ atoiE u.s = false ∧ (certT ⟨a.s,p,numB u.s⟩).op = 8:=fun hr => by
    simp only [Bool.and_eq_true] at hr
    have ht:=certB_til hr.1
    obtain ⟨i1,i2⟩:=numB_inv ht.1
    have:=atoiN_digits ht.1 ht.2
    simp only at this ht
    rw [i2] at this
    exact ⟨this.1,this.2,by rw [(eqT_iff _ _).1 hr.2];exact h8⟩
  have hL : (!atoiE u.s && (decide ((certT ⟨a.s,p,atoiN u.s⟩).op = 8) && eqT (certT ⟨a.s,p,atoiN u.s⟩) t)) = true → numB u.s = atoiN u.s ∧ certB ⟨a.s,p,atoiN u.s⟩ = true:=fun hl => by
    simp only [Bool.and_eq_true,decide_eq_true_eq] at hl
    have et:=(eqT_iff _ _).1 hl.2.2
    obtain ⟨k1,k2,k3,k4⟩:=certT_open (c:=⟨a.s,p,atoiN u.s⟩) (a:=a) (p:=p) (u:=u) hl.2.1 (by rw [et];exact h)
    have ht:=certB_til k1
    have:=numB_digits ht.1 ht.2
    refine ⟨?_,k1⟩
    have hu : u.s = digB (atoiN u.s):=by
      conv => lhs;rw [k4]
      rfl
    rw [← hu] at this
    exact this
  unfold certOfT
  rw [h]
  simp only
  cases hr : (certB ⟨a.s,p,numB u.s⟩ && eqT (certT ⟨a.s,p,numB u.s⟩) t) with
  | true =>
    obtain ⟨e1,e2,e3⟩:=hR hr
    simp only [Bool.and_eq_true] at hr
    rw [e1,e2,e3,hr.2]
    rfl
  | false =>
    cases hl : (!atoiE u.s && (decide ((certT ⟨a.s,p,atoiN u.s⟩).op = 8) && eqT (certT ⟨a.s,p,atoiN u.s⟩) t)) with
    | false => rfl
    | true =>
      obtain ⟨e1,e2⟩:=hL hl
      simp only [Bool.and_eq_true] at hl
      rw [e1,e2,hl.2.2] at hr
      cases hr
end Go.Proofs.YtlddcimpdkcgeaaGreatDoor
