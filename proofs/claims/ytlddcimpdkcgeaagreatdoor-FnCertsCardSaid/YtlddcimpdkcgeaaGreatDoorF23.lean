/- Two come to the same from both sides. -/
import Derived.Test.YtlddcimpdkcgeaaGreatDoorF11
import Derived.Test.YtlddcimpdkcgeaaGreatDoorF14
set_option linter.unusedVariables false
set_option linter.unusedSimpArgs false
set_option maxRecDepth 20000
set_option maxHeartbeats 4000000
namespace Go.Proofs.YtlddcimpdkcgeaaGreatDoor
open Go Go.RowKit Sym
theorem bl_ne : ∀ x y : List UInt8,x ≠ y → Op.bytesLess x y = !Op.bytesLess y x
  | [],[],h => absurd rfl h
  | [],_ :: _,_ => rfl
  | _ :: _,[],_ => rfl
  | a :: x,b :: y,h => by
    simp only [Op.bytesLess]
    by_cases hab : a = b
    · subst hab
      have hxy : x ≠ y:=fun e => h (by rw [e])
      have:=bl_ne x y hxy
      have h0 : ¬ a < a:=UInt8.lt_irrefl a
      simp [h0,this]
    · have hba : ¬ b = a:=fun e => hab e.symm
      have h1 : (a == b) = false:=by simp [hab]
      have h2 : (b == a) = false:=by simp [hba]
      rw [h1,h2,Bool.false_and,Bool.false_and,Bool.or_false,Bool.or_false]
      have hn : a.toNat ≠ b.toNat:=fun e => hab (UInt8.toNat_inj.1 e)
      by_cases hlt : a < b
      · have hnlt : ¬ b < a:=by
          rw [UInt8.lt_iff_toNat_lt] at hlt ⊢
          omega
        simp [hlt,hnlt]
      · have hnlt : b < a:=by
          rw [UInt8.lt_iff_toNat_lt] at hlt ⊢
          omega
        simp [hlt,hnlt]
theorem ltS_ne {s t : ByteArray} (h : beqS s t = false) : ltS s t = !ltS t s:=by
  unfold ltS
  refine bl_ne _ _ (fun e => ?_)
  unfold beqS at h
  rw [e] at h
  simp at h
theorem beqS_comm (s t : ByteArray) : beqS s t = beqS t s:=by
  by_cases h : s = t
  · rw [h]
  · have h1 : beqS s t = false:=by
      cases hb : beqS s t with
      | false => rfl
      | true => exact absurd (beqS_iff.1 hb) h
    have h2 : beqS t s = false:=by
      cases hb : beqS t s with
      | false => rfl
      | true => exact absurd (beqS_iff.1 hb).symm h
    rw [h1,h2]
theorem eqT_comm (t u : Term) : eqT t u = eqT u t:=by
  by_cases h : t = u
  · rw [h]
  · have h1 : eqT t u = false:=by
      cases hb : eqT t u with
      | false => rfl
      | true => exact absurd ((eqT_iff t u).1 hb) h
    have h2 : eqT u t = false:=by
      cases hb : eqT u t with
      | false => rfl
      | true => exact absurd ((eqT_iff u t).1 hb).symm h
    rw [h1,h2]
mutual
theorem bef_self : ∀ t : Term,befT t t = false
  | .mk op n s kids => by
    rw [befT]
    simp only [Term.op,Term.n,Term.s,Term.kids,decide_true,Bool.not_true,cond_false,beqS_refl]
    exact befs_self kids
theorem befs_self : ∀ ts : List Term,befs ts ts = false
  | [] => by simp [befs]
  | t :: ts => by
    rw [befs,eqT_refl]
    simp only [Bool.not_true,cond_false]
    exact befs_self ts
end
mutual
theorem bef_ne : ∀ t u : Term,eqT t u = false → befT t u = !befT u t
  | .mk op n s kids,.mk op' n' s' kids',h => by
    rw [befT,befT]
    simp only [Term.op,Term.n,Term.s,Term.kids]
    rw [eqT] at h
    simp only [Term.op,Term.n,Term.s,Term.kids] at h
    by_cases h1 : op = op'
    · subst h1
      simp only [decide_true,Bool.not_true,cond_false,Bool.true_and] at h ⊢
      by_cases h2 : n = n'
      · subst h2
        simp only [decide_true,Bool.not_true,cond_false,Bool.true_and] at h ⊢
        cases h3 : beqS s s' with
        | false =>
          rw [beqS_comm s' s,h3]
          simp only [Bool.not_false,cond_true]
          exact ltS_ne h3
        | true =>
          rw [beqS_comm s' s,h3]
          rw [h3,Bool.true_and] at h
          simp only [Bool.not_true,cond_false]
          by_cases h4 : kids.length = kids'.length
          · have e1 : ((kids.length : Int) = kids'.length) = True:=eq_true (by omega)
            have e2 : ((kids'.length : Int) = kids.length) = True:=eq_true (by omega)
            simp only [e1,e2,decide_true,Bool.not_true,cond_false]
            exact befs_ne kids kids' h4 h
          · have e1 : ((kids.length : Int) = kids'.length) = False:=eq_false (by omega)
            have e2 : ((kids'.length : Int) = kids.length) = False:=eq_false (by omega)
            simp only [e1,e2,decide_false,Bool.not_false,cond_true]
            by_cases h5 : (kids.length : Int) < kids'.length
            · have h6 : ¬ (kids'.length : Int) < kids.length:=by omega
              simp [h5,h6]
            · have h6 : (kids'.length : Int) < kids.length:=by omega
              simp [h5,h6]
      · have e1 : (n = n') = False:=eq_false h2
        have e2 : (n' = n) = False:=eq_false (fun e => h2 e.symm)
        simp only [e1,e2,decide_false,Bool.not_false,cond_true]
        by_cases h5 : n < n'
        · have h6 : ¬ n' < n:=by omega
          simp [h5,h6]
        · have h6 : n' < n:=by omega
          simp [h5,h6]
    · have e1 : (op = op') = False:=eq_false h1
      have e2 : (op' = op) = False:=eq_false (fun e => h1 e.symm)
      simp only [e1,e2,decide_false,Bool.not_false,cond_true]
      by_cases h5 : op < op'
      · have h6 : ¬ op' < op:=by omega
        simp [h5,h6]
      · have h6 : op' < op:=by omega
        simp [h5,h6]
theorem befs_ne : ∀ ts us : List Term,ts.length = us.length → eqTs ts us = false → befs ts us = !befs us ts
  | [],[],_,h => by simp [eqTs] at h
  | t :: ts,u :: us,hl,h => by
    rw [befs,befs,eqT_comm u t]
    rw [eqTs] at h
    cases he : eqT t u with
    | false =>
      simp only [Bool.not_false,cond_true]
      exact bef_ne t u he
    | true =>
      rw [he,Bool.true_and] at h
      simp only [Bool.not_true,cond_false]
      exact befs_ne ts us (by simpa using hl) h
  | [],_ :: _,hl,_ => by simp at hl
  | _ :: _,[],hl,_ => by simp at hl
end
theorem bef_asymm {t u : Term} (h : befT t u = true) : befT u t = false:=by
  cases he : eqT t u with
  | true =>
    have:=(eqT_iff t u).1 he
    subst this
    rw [bef_self] at h
    cases h
  | false =>
    rw [bef_ne t u he] at h
    simpa using h
end Go.Proofs.YtlddcimpdkcgeaaGreatDoor
set_option maxRecDepth 20000
set_option maxHeartbeats 4000000
namespace Go.Proofs.YtlddcimpdkcgeaaGreatDoor
open Go Go.RowKit Sym
theorem share_kids (a b : Term) : (shareT a b).kids = [a,b] ∨ (shareT a b).kids = [b,a]:=by
  unfold shareT
  cases befT b a with
  | true => exact .inr rfl
  | false => exact .inl rfl
end Go.Proofs.YtlddcimpdkcgeaaGreatDoor
