/- A certificate made is a certificate read: over terms. -/
import Derived.Test.YtlddcimpdkcgeaaGreatDoorE8
import Derived.Test.YtlddcimpdkcgeaaGreatDoorG2
set_option linter.unusedVariables false
set_option linter.unusedSimpArgs false
set_option maxRecDepth 20000
set_option maxHeartbeats 4000000
namespace Go.Proofs.YtlddcimpdkcgeaaGreatDoor
open Go Go.RowKit Sym
theorem caT_eq : caT = .mk 1 1 ⟨#[]⟩ []:=rightOr_of (ok_of_nods (right_atom (by decide)) (by rw [nods0];decide))
theorem caP_eq : caP = .mk 4 0 ⟨#[]⟩ [caT]:=by
  unfold caP pubT
  refine rightOr_of (ok_of_nods (right1 (.inl rfl) ?_) ?_)
  · rw [caT_eq];exact right_atom (by decide)
  · rw [nods1,caT_eq,nods0];decide
theorem certB_some {c : Cert} (h : certB c = true) : hostB c.host 2 = true ∧ c.pub.op = 4 ∧ okT c.pub = true:=by
  unfold certB at h
  cases h1 : hostB c.host 2 with
  | false => rw [h1] at h;cases h
  | true =>
    rw [h1] at h
    by_cases h2 : c.pub.op = 4
    · rw [decide_eq_true h2] at h
      cases h3 : okT c.pub with
      | false => rw [h3] at h;cases h
      | true => exact ⟨rfl,h2,rfl⟩
    · rw [decide_eq_false h2] at h;cases h
theorem host_small {s : ByteArray} {k : Int} (h : hostB s k = true) : s.size ≤ 60:=by
  unfold hostB at h
  simp only [Bool.and_eq_true,decide_eq_true_eq] at h
  omega
theorem cert_not {c : Cert} (h : certB c = false) : certT c = noT:=by unfold certT;rw [h];rfl
theorem cert_made {c : Cert} (hb : certB c = true) (hn : c.pub.nods ≤ 100) : certT c = .mk 8 0 ⟨#[]⟩ [caT,bodyT c] ∧ certOfT (certT c) = some c:=by
  obtain ⟨hh,h4,ho⟩:=certB_some hb
  obtain ⟨t0,t1⟩:=certB_til hb
  have hsz:=host_small hh
  have rp : rightT c.pub = true:=ok_right ho
  have rh : rightT (textT c.host) = true:=right_text (by omega)
  have hnt:=numT_cnt c.til
  have rn : rightT (numT c.til) = true:=right_text (by rw [numT,textT_cnt] at hnt;omega)
  have nn : (numT c.til).nods = 1:=nods0 _ _ _
  have nh : (textT c.host).nods = 1:=nods0 _ _ _
  have r1 : rightT (.mk 3 0 ⟨#[]⟩ [c.pub,numT c.til]) = true:=right2 (.inl rfl) rp rn
  have e1 : pairT c.pub (numT c.til) = .mk 3 0 ⟨#[]⟩ [c.pub,numT c.til]:=rightOr_of (ok_of_nods r1 (by rw [nods2];omega))
  have r2 : rightT (.mk 3 0 ⟨#[]⟩ [textT c.host,.mk 3 0 ⟨#[]⟩ [c.pub,numT c.til]]) = true:=right2 (.inl rfl) rh r1
  have e2 : bodyT c = .mk 3 0 ⟨#[]⟩ [textT c.host,.mk 3 0 ⟨#[]⟩ [c.pub,numT c.til]]:=by
    unfold bodyT
    rw [e1]
    exact rightOr_of (ok_of_nods r2 (by rw [nods2,nods2];omega))
  have rc : rightT caT = true:=by rw [caT_eq];exact right_atom (by decide)
  have nc : caT.nods = 1:=by rw [caT_eq];exact nods0 _ _ _
  have ok3 : okT (.mk 8 0 ⟨#[]⟩ [caT,bodyT c]) = true:=by
    rw [e2]
    exact ok_of_nods (right2 (.inr (.inr rfl)) rc r2) (by rw [nods2,nods2,nods2];omega)
  have e3 : certT c = .mk 8 0 ⟨#[]⟩ [caT,bodyT c]:=by
    unfold certT
    rw [hb]
    exact rightOr_of ok3
  refine ⟨e3,?_⟩
  have hs : signedT caP (certT c) = some (bodyT c):=by
    rw [e3]
    unfold signedT
    simp only [kids_mk]
    rw [if_pos ⟨ok3,rfl,by rw [caP_eq];exact eqT_refl _⟩]
  have hx : twoT (bodyT c) = some (textT c.host,.mk 3 0 ⟨#[]⟩ [c.pub,numT c.til]):=by rw [e2];exact twoT_eq rfl rfl
  have hop:=openC_eq hs hx (twoT_eq (t:=.mk 3 0 ⟨#[]⟩ [c.pub,numT c.til]) rfl rfl)
  have hnum : numB (numT c.til).s = c.til:=numB_digits t0 t1
  have hc : (Cert.mk (textT c.host).s c.pub (numB (numT c.til).s)) = c:=by rw [hnum];rfl
  unfold certOfT
  rw [hop]
  simp only
  rw [hc,hb,eqT_refl]
  rfl
theorem cert_back {t : Term} {d : Cert} (h : certOfT t = some d) : certT d = t:=by
  unfold certOfT at h
  rcases ho : openC t with _|⟨a,p,u⟩
  · rw [ho] at h;cases h
  · rw [ho] at h
    simp only at h
    cases hb : (certB ⟨a.s,p,numB u.s⟩ && eqT (certT ⟨a.s,p,numB u.s⟩) t) with
    | false => rw [hb] at h;cases h
    | true =>
      rw [hb] at h
      simp only [cond_true,Option.some.injEq] at h
      subst h
      simp only [Bool.and_eq_true] at hb
      exact (eqT_iff _ _).1 hb.2
theorem good_three {c : Cert} (hb : certB c = true) (hn : c.pub.nods ≤ 100) (zz : ByteArray) (hz : beqS c.host zz = false) :
    (goodT (certT c) c.host c.til).isSome = true ∧ (goodT (certT c) c.host (c.til + 1)).isSome = false ∧ (goodT (certT c) zz 0).isSome = false:=by
  have h:=(cert_made hb hn).2
  rw [good_some h,good_some h,good_some h,beqS_refl,hz,decide_eq_false (Int.lt_irrefl _),decide_eq_true (by omega : c.til < c.til + 1)]
  exact ⟨rfl,rfl,rfl⟩
end Go.Proofs.YtlddcimpdkcgeaaGreatDoor
