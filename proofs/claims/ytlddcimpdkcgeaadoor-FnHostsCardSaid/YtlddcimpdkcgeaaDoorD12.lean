/- Hosts fit themselves, and what stands for their rest: over texts. -/
import Derived.Test.YtlddcimpdkcgeaaDoorD8
set_option linter.unusedVariables false
set_option linter.unusedSimpArgs false
set_option maxRecDepth 20000
set_option maxHeartbeats 4000000
namespace Go.Proofs.YtlddcimpdkcgeaaDoor
open Go Go.RowKit Sym
theorem beqS_eq {s t : ByteArray} (h : beqS s t = true) : s.data.toList = t.data.toList:=by
  unfold beqS at h
  simp only [beq_iff_eq] at h
  rwa [ByteArray.toList_eq,ByteArray.toList_eq] at h
theorem fits_inv {p h : ByteArray} (hf : fitsB p h = true) : patB p = true ∧ hostB h 2 = true ∧ (beqS p h = true ∨ (starB p = true ∧ beqS (behB h) (restB p) = true)):=by
  unfold fitsB at hf
  cases h1 : patB p with
  | false => rw [h1] at hf;cases hf
  | true =>
    cases h2 : hostB h 2 with
    | false => rw [h1,h2] at hf;cases hf
    | true =>
      rw [h1,h2] at hf
      refine ⟨rfl,rfl,?_⟩
      cases h3 : beqS p h with
      | true => exact .inl rfl
      | false =>
        rw [h3] at hf
        cases h4 : starB p with
        | false => rw [h4] at hf;cases hf
        | true => rw [h4] at hf;exact .inr ⟨rfl,hf⟩
theorem labs_star {p : ByteArray} {r : List UInt8} (h : p.data.toList = 42 :: 46 :: r) : labs p = mkB [42] :: labsL r ∧ restB p = mkB r:=by
  refine ⟨?_,?_⟩
  · unfold labs
    rw [h]
    exact labsL_cons (a:=[42]) (r:=r) (fun x hx => by rw [List.mem_singleton.1 hx];decide)
  · unfold restB
    rw [h]
    rfl
theorem mkB_inj2 {a b : List UInt8} (h : (mkB a).data.toList = (mkB b).data.toList) : a = b:=by simpa [mkB] using h
theorem fits_len {p h : ByteArray} (hf : fitsB p h = true) : (labs p).length = (labs h).length:=by
  obtain ⟨h1,h2,h3|⟨h3,h4⟩⟩:=fits_inv hf
  · have:=beqS_eq h3
    unfold labs
    rw [this]
  · obtain ⟨r,hr⟩:=star_cons h3
    obtain ⟨e1,e2⟩:=labs_star hr
    obtain ⟨a,r',g1,g2,g3⟩:=host_cut h2
    rw [g3,e2] at h4
    have:=mkB_inj2 (beqS_eq h4)
    rw [e1,g2,this]
    rfl
/-- What stands for a host's rest. -/
theorem host_pack {s : ByteArray} (h : hostB s 2 = true) : ∃ (x : ByteArray) (ls : List ByteArray) (rest : ByteArray),labs s = x :: ls ∧ x.size + 1 ≤ s.size ∧ s.extract (x.size + 1) s.size = rest ∧ rest.size ≤ s.size ∧ patB s = true ∧ fitsB s s = true ∧
    (hostB rest 2 = true → fitsB (⟨#[42,46]⟩ ++ rest) s = true ∧ fitsB (⟨#[42,46]⟩ ++ rest) (⟨#[113,46]⟩ ++ s) = false):=by
  obtain ⟨a,r,g1,g2,g3⟩:=host_cut h
  have hst : starB s = false:=by
    cases hh : starB s with
    | false => rfl
    | true => rw [hostB_star hh] at h;cases h
  have hp : patB s = true:=by unfold patB;rw [hst];exact h
  have hsz : s.size = a.length + 1 + r.length:=by rw [Lib.size_eq,g1];simp;omega
  have hext : s.extract ((mkB a).size + 1) s.size = mkB r:=by
    rw [mkB_size]
    refine mkB_inj ?_
    rw [Lib.extract_to_end,g1,show a.length + 1 = (a ++ [46]).length by simp,show a ++ 46 :: r = (a ++ [46]) ++ r by simp]
    exact List.drop_left
  refine ⟨mkB a,labsL r,mkB r,g2,by rw [mkB_size];omega,hext,by rw [mkB_size];omega,hp,?_,fun hr => ?_⟩
  · unfold fitsB
    rw [hp,h,beqS_refl]
    rfl
  · have hd : ((⟨#[42,46]⟩ : ByteArray) ++ mkB r).data.toList = 42 :: 46 :: r:=by
      rw [ByteArray.data_append,Array.toList_append]
      simp [mkB]
    obtain ⟨e1,e2⟩:=labs_star hd
    have hs2 : starB ((⟨#[42,46]⟩ : ByteArray) ++ mkB r) = true:=by
      unfold starB
      rw [hd]
      rfl
    have hr1 : hostB (mkB r) 1 = true:=by
      unfold hostB at hr ⊢
      simp only [Bool.and_eq_true,decide_eq_true_eq] at hr ⊢
      exact ⟨hr.1,by omega,hr.2.2⟩
    have hpp : patB ((⟨#[42,46]⟩ : ByteArray) ++ mkB r) = true:=by
      unfold patB
      rw [hs2,e2,hr1]
      rfl
    refine ⟨?_,?_⟩
    · unfold fitsB
      rw [hpp,h,hs2,g3,e2,beqS_refl]
      cases beqS ((⟨#[42,46]⟩ : ByteArray) ++ mkB r) s <;> rfl
    · cases hq : hostB ((⟨#[113,46]⟩ : ByteArray) ++ s) 2 with
      | false => unfold fitsB;rw [hpp,hq];rfl
      | true =>
        have hqd : ((⟨#[113,46]⟩ : ByteArray) ++ s).data.toList = 113 :: 46 :: s.data.toList:=by
          rw [ByteArray.data_append,Array.toList_append]
          rfl
        obtain ⟨a',r',k1,k2,k3⟩:=host_cut hq
        have k4 : labs ((⟨#[113,46]⟩ : ByteArray) ++ s) = mkB [113] :: labsL s.data.toList:=by
          unfold labs
          rw [hqd]
          exact labsL_cons (a:=[113]) (fun x hx => by rw [List.mem_singleton.1 hx];decide)
        rw [k4] at k2
        injection k2 with k5 _
        have k6 : a' = [113]:=(mkB_inj2 (congrArg (fun s : ByteArray => s.data.toList) k5)).symm
        rw [hqd,k6] at k1
        injection k1 with _ k1
        injection k1 with _ k1
        have hne : beqS ((⟨#[42,46]⟩ : ByteArray) ++ mkB r) ((⟨#[113,46]⟩ : ByteArray) ++ s) = false:=by
          cases hh : beqS ((⟨#[42,46]⟩ : ByteArray) ++ mkB r) ((⟨#[113,46]⟩ : ByteArray) ++ s) with
          | false => rfl
          | true =>
            have:=beqS_eq hh
            rw [hd,hqd] at this
            injection this with h1 _
            exact absurd h1 (by decide)
        have hne2 : beqS (mkB r') (mkB r) = false:=by
          cases hh : beqS (mkB r') (mkB r) with
          | false => rfl
          | true =>
            have:=mkB_inj2 (beqS_eq hh)
            rw [← k1] at this
            have:=congrArg List.length this
            rw [← Lib.size_eq] at this
            omega
        unfold fitsB
        rw [hpp,hq,hne,hs2,k3,e2,hne2]
        rfl
end Go.Proofs.YtlddcimpdkcgeaaDoor
