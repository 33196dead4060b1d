/- What is sealed is opened by its key and number alone: over terms. -/
import Derived.Test.YtlddcimpdkcgeaaDoorF17
import Derived.Test.YtlddcimpdkcgeaaDoorF24
set_option linter.unusedVariables false
set_option linter.unusedSimpArgs false
set_option maxRecDepth 20000
set_option maxHeartbeats 4000000
namespace Go.Proofs.YtlddcimpdkcgeaaDoor
open Go Go.RowKit Sym
theorem numT_next {n : Int} (h : -1 ≤ n ∧ n ≤ 5) : eqT (numT n) (numT (n + 1)) = false:=by
  have key : digB n ≠ digB (n + 1):=by
    have h7 : n = -1 ∨ n = 0 ∨ n = 1 ∨ n = 2 ∨ n = 3 ∨ n = 4 ∨ n = 5:=by omega
    have dB : ∀ u : Nat,u < 10 → (digB (u : Int)).data.toList = [UInt8.ofNat (48 + u)]:=fun u hu => by
      rw [digB_in ⟨by omega,by omega⟩,digR_data]
      unfold Lib.itoa
      rw [if_neg (by omega)]
      exact Lib.decDigits_one (by simpa using hu)
    have dM : (digB (-1)).data.toList = [45,49]:=by
      rw [digB_in ⟨by decide,by decide⟩,digR_data]
      unfold Lib.itoa
      rw [if_pos (by decide)]
      show 45 :: Lib.decDigits 1 = _
      rw [Lib.decDigits_one (by decide)]
      rfl
    intro e
    have e:=congrArg (fun s : ByteArray => s.data.toList) e
    rcases h7 with rfl|rfl|rfl|rfl|rfl|rfl|rfl
    · have e : (digB (-1)).data.toList = (digB ((0 : Nat) : Int)).data.toList:=e
      rw [dM,dB 0 (by decide)] at e
      exact absurd e (by decide)
    · have e : (digB ((0 : Nat) : Int)).data.toList = (digB ((1 : Nat) : Int)).data.toList:=e
      rw [dB 0 (by decide),dB 1 (by decide)] at e
      exact absurd e (by decide)
    · have e : (digB ((1 : Nat) : Int)).data.toList = (digB ((2 : Nat) : Int)).data.toList:=e
      rw [dB 1 (by decide),dB 2 (by decide)] at e
      exact absurd e (by decide)
    · have e : (digB ((2 : Nat) : Int)).data.toList = (digB ((3 : Nat) : Int)).data.toList:=e
      rw [dB 2 (by decide),dB 3 (by decide)] at e
      exact absurd e (by decide)
    · have e : (digB ((3 : Nat) : Int)).data.toList = (digB ((4 : Nat) : Int)).data.toList:=e
      rw [dB 3 (by decide),dB 4 (by decide)] at e
      exact absurd e (by decide)
    · have e : (digB ((4 : Nat) : Int)).data.toList = (digB ((5 : Nat) : Int)).data.toList:=e
      rw [dB 4 (by decide),dB 5 (by decide)] at e
      exact absurd e (by decide)
    · have e : (digB ((5 : Nat) : Int)).data.toList = (digB ((6 : Nat) : Int)).data.toList:=e
      rw [dB 5 (by decide),dB 6 (by decide)] at e
      exact absurd e (by decide)
  cases he : eqT (numT n) (numT (n + 1)) with
  | false => rfl
  | true =>
    have:=(eqT_iff _ _).1 he
    unfold numT textT at this
    injection this with _ _ hs _
    exact absurd hs key
theorem noT_right : rightT noT = false:=by rfl
theorem rightOr_op {t : Term} (h : (rightOr t).op ≠ 0) : okT t = true ∧ rightOr t = t:=by
  unfold rightOr at h ⊢
  cases ho : okT t with
  | true => exact ⟨rfl,rfl⟩
  | false => rw [ho] at h;exact absurd rfl h
theorem rightOr_right {t : Term} (h : rightT (rightOr t) = true) : rightOr t = t:=by
  unfold rightOr at h ⊢
  cases ho : okT t with
  | true => rfl
  | false => rw [ho] at h;simp only [cond_false] at h;rw [noT_right] at h;cases h
theorem eta (t : Term) : t = .mk t.op t.n t.s t.kids:=by cases t;rfl
/-- What is sealed. -/
theorem seal_inv {k b : Term} {n : Int} (h : (sealT k n b).op = 7) : okT (sealT k n b) = true ∧ (sealT k n b).kids = [k,.mk 3 0 ⟨#[]⟩ [numT n,b]]:=by
  unfold sealT at h ⊢
  obtain ⟨ho,he⟩:=rightOr_op (t:=.mk 7 0 ⟨#[]⟩ [k,pairT (numT n) b]) (by rw [h];decide)
  have hr : rightT (pairT (numT n) b) = true:=right_mem (ok_right ho) (by simp [Term.kids])
  have hp : pairT (numT n) b = .mk 3 0 ⟨#[]⟩ [numT n,b]:=rightOr_right hr
  rw [he]
  refine ⟨ho,?_⟩
  rw [hp]
  rfl
theorem open_seal {k b : Term} {n : Int} (h : (sealT k n b).op = 7) (hn : -1 ≤ n ∧ n ≤ 5) : openT k n (sealT k n b) = some b ∧ openT k (n + 1) (sealT k n b) = none:=by
  obtain ⟨ho,hk⟩:=seal_inv h
  refine ⟨?_,?_⟩
  · rw [openT_at ho h hk,eqT_refl,opP_at rfl rfl,eqT_refl];rfl
  · rw [openT_at ho h hk,eqT_refl,opP_at rfl rfl,numT_next hn];rfl
theorem plain_of {t : Term} (h : rightT t = true) (h1 : t.op ≠ 1) (h2 : t.op ≠ 2) (h5 : t.op ≠ 5) : t.n = 0 ∧ t.s = ⟨#[]⟩:=(form_plain h1 h2 h5).1 (right_iff.1 h).2.2
theorem seal_open {x t o : Term} {m : Int} (ht : t.cnt ≤ 8388608) (h : openT x m t = some o) : sealT x m o = t:=by
  by_cases hno : okT t = false ∨ t.op ≠ 7
  · rw [openT_no hno] at h;cases h
  have ho : okT t = true:=by cases hh : okT t with|true => rfl|false => exact absurd (.inl hh) hno
  have h7 : t.op = 7:=by by_cases hh : t.op = 7;exact hh;exact absurd (.inr hh) hno
  have hr:=ok_right ho
  obtain ⟨y,p,hk⟩:=two_kids hr (by rw [h7];rfl)
  rw [openT_at ho h7 hk] at h
  cases hyx : eqT y x with
  | false => rw [hyx] at h;cases h
  | true =>
    rw [hyx,cond_true] at h
    have e1:=(eqT_iff y x).1 hyx
    by_cases h3 : p.op = 3
    · have hpr : rightT p = true:=right_mem hr (by rw [hk];simp)
      obtain ⟨a,c,hpk⟩:=two_kids hpr (by rw [h3];rfl)
      rw [opP_at h3 hpk] at h
      cases hac : eqT a (numT m) with
      | false => rw [hac] at h;cases h
      | true =>
        rw [hac,cond_true] at h
        injection h with h
        have e2:=(eqT_iff _ _).1 hac
        subst e1;subst e2;subst h
        obtain ⟨tn,ts⟩:=plain_of hr (by omega) (by omega) (by omega)
        obtain ⟨pn,ps⟩:=plain_of hpr (by omega) (by omega) (by omega)
        have et : t = .mk 7 0 ⟨#[]⟩ [y,p]:=by rw [eta t,h7,tn,ts,hk]
        have ep : p = .mk 3 0 ⟨#[]⟩ [numT m,c]:=by rw [eta p,h3,pn,ps,hpk]
        have hf : fineT t:=⟨hr,ok_nods ho (by have:=nods_le t;omega)⟩
        have hp : okT p = true:=fine_ok (fine_kid hf (by rw [hk];simp))
        have e3 : pairT (numT m) c = p:=by unfold pairT;rw [← ep];unfold rightOr;rw [hp];rfl
        unfold sealT
        rw [e3,← et]
        unfold rightOr
        rw [ho]
        rfl
    · rw [opP_no h3] at h;cases h
end Go.Proofs.YtlddcimpdkcgeaaDoor
