/- Numbers out of texts: the reference's, and what both have in common. -/
import Derived.Test.YtlddcimpdkcgeaaGreatDoorD13
import Derived.Test.YtlddcimpdkcgeaaGreatDoorD2
import Derived.Test.YtlddcimpdkcgeaaGreatDoorF11
set_option linter.unusedVariables false
set_option linter.unusedSimpArgs false
set_option maxRecDepth 20000
set_option maxHeartbeats 8000000
namespace Go.Proofs.YtlddcimpdkcgeaaGreatDoor
open Go Go.RowKit Sym
attribute [local irreducible] awp aops aopsQ gop gopQ gopO gopOQ gopV gopT awpN awpT awpTs ACall after
theorem dec_snoc (c : UInt8) : ∀ (l : List UInt8) (acc v : Nat),Lib.decFrom acc l = some v → Lib.decFrom acc (l ++ [c]) = Lib.decFrom v [c]
  | [],acc,v,h => by simp only [Lib.decFrom,Option.some.injEq] at h;subst h;rfl
  | b :: r,acc,v,h => by
    simp only [Lib.decFrom,List.cons_append] at h ⊢
    cases hb : Lib.digitVal b with
    | none => rw [hb] at h;cases h
    | some d => rw [hb] at h;exact dec_snoc c r _ v h
theorem digit_val {d : Nat} (h : d < 10) : (UInt8.ofNat (48 + d)).toNat = 48 + d:=by
  show (48 + d) % 256 = 48 + d
  omega
theorem dec_one {d v : Nat} (h : d < 10) : Lib.decFrom v [UInt8.ofNat (48 + d)] = some (v * 10 + d):=by
  have:=digit_val h
  simp only [Lib.decFrom,Lib.digitVal]
  rw [this,if_pos (by omega)]
  simp only [Option.some.injEq]
  omega
theorem dec_digits : ∀ u : Nat,Lib.decFrom 0 (Lib.decDigits u) = some u:=by
  intro u
  induction u using Nat.strongRecOn with
  | _ u ih =>
    by_cases h : u < 10
    · rw [Lib.decDigits_one h,dec_one h];simp
    · rw [Lib.decDigits,dif_neg h,dec_snoc _ _ _ _ (ih (u / 10) (by omega)),dec_one (by omega)]
      congr 1
      omega
theorem par_snoc (c : UInt8) : ∀ (l : List UInt8) (acc v : Nat),Lib.parseUint10 acc l = .ok v → Lib.parseUint10 acc (l ++ [c]) = Lib.parseUint10 v [c]
  | [],acc,v,h => by simp only [Lib.parseUint10] at h;injection h with h;subst h;rfl
  | b :: r,acc,v,h => by
    simp only [Lib.parseUint10,List.cons_append] at h ⊢
    split at h
    · rename_i h1
      rw [if_pos h1]
      split at h
      · cases h
      · rename_i h2
        rw [if_neg h2]
        split at h
        · cases h
        · rename_i h3
          rw [if_neg h3]
          exact par_snoc c r _ v h
    · cases h
theorem par_one {d v : Nat} (h : d < 10) (hv : v ≤ 1000000) : Lib.parseUint10 v [UInt8.ofNat (48 + d)] = .ok (v * 10 + d):=by
  have:=digit_val h
  simp only [Lib.parseUint10]
  rw [this,if_pos (by omega),if_neg (by omega),if_neg (by omega)]
  congr 1
  omega
theorem par_digits : ∀ u : Nat,u ≤ 1000000 → Lib.parseUint10 0 (Lib.decDigits u) = .ok u:=by
  intro u
  induction u using Nat.strongRecOn with
  | _ u ih =>
    intro hu
    by_cases h : u < 10
    · rw [Lib.decDigits_one h,par_one h (by omega)];simp
    · rw [Lib.decDigits,dif_neg h,par_snoc _ _ _ _ (ih (u / 10) (by omega) (by omega)),par_one (by omega) (by omega)]
      congr 1
      omega
theorem dec_head : ∀ u : Nat,∃ d r,d < 10 ∧ Lib.decDigits u = UInt8.ofNat (48 + d) :: r:=by
  intro u
  induction u using Nat.strongRecOn with
  | _ u ih =>
    by_cases h : u < 10
    · exact ⟨u,[],h,Lib.decDigits_one h⟩
    · obtain ⟨d,r,hd,e⟩:=ih (u / 10) (by omega)
      refine ⟨d,r ++ [UInt8.ofNat (48 + u % 10)],hd,?_⟩
      rw [Lib.decDigits,dif_neg h,e]
      rfl
theorem atoi_digits {n : Int} (h0 : 0 ≤ n) (h1 : n ≤ 100000) : Lib.atoiAll (digB n).data.toList = .ok n:=by
  obtain ⟨u,rfl⟩ : ∃ u : Nat,n = u:=⟨n.toNat,by omega⟩
  have e : (digB (u : Int)).data.toList = Lib.decDigits u:=by
    rw [digB_in ⟨by omega,by omega⟩,digR_data]
    unfold Lib.itoa
    rw [if_neg (by omega)]
    simp
  rw [e]
  obtain ⟨d,r,hd,ed⟩:=dec_head u
  have hp:=par_digits u (by omega)
  have hv:=digit_val hd
  rw [ed] at hp ⊢
  unfold Lib.atoiAll
  simp only
  rw [if_neg (by rw [hv];omega)]
  unfold Lib.parseMag
  rw [if_neg (by simp),hp]
  simp only [hv]
  rw [if_neg (by omega),if_neg (by omega),if_neg (by omega)]
theorem atoiN_digits {n : Int} (h0 : 0 ≤ n) (h1 : n ≤ 100000) : atoiN (digB n) = n ∧ atoiE (digB n) = false:=by
  have:=atoi_digits h0 h1
  unfold atoiN atoiE
  rw [this]
  exact ⟨rfl,rfl⟩
def numB (s : ByteArray) : Int:=if 1 ≤ s.size ∧ s.size ≤ 6 then (match Lib.decFrom 0 s.data.toList with|some n => bif beqS (digB n) s && decide (n ≤ 100000) then (n : Int) else -1|none => -1) else -1
theorem numB_inv {s : ByteArray} (h : 0 ≤ numB s) : numB s ≤ 100000 ∧ digB (numB s) = s:=by
  unfold numB at h ⊢
  split at h
  · rename_i hs
    rw [if_pos hs]
    split at h
    · rename_i n hn
      cases hb : (beqS (digB n) s && decide (n ≤ 100000)) with
      | true =>
        simp only [cond_true]
        simp only [Bool.and_eq_true,decide_eq_true_eq] at hb
        exact ⟨by omega,beqS_iff.1 hb.1⟩
      | false => rw [hb] at h;simp at h
    · simp at h
  · simp at h
theorem dec_short : ∀ u : Nat,u ≤ 100000 → 1 ≤ (Lib.decDigits u).length ∧ (Lib.decDigits u).length ≤ 6:=by
  intro u hu
  rw [Lib.decDigits_length]
  by_cases h1 : u < 10
  · rw [Lib.nDigits_small h1];omega
  rw [Lib.nDigits_big h1]
  by_cases h2 : u / 10 < 10
  · rw [Lib.nDigits_small h2];omega
  rw [Lib.nDigits_big h2]
  by_cases h3 : u / 10 / 10 < 10
  · rw [Lib.nDigits_small h3];omega
  rw [Lib.nDigits_big h3]
  by_cases h4 : u / 10 / 10 / 10 < 10
  · rw [Lib.nDigits_small h4];omega
  rw [Lib.nDigits_big h4]
  by_cases h5 : u / 10 / 10 / 10 / 10 < 10
  · rw [Lib.nDigits_small h5];omega
  rw [Lib.nDigits_big h5,Lib.nDigits_small (by omega)];omega
theorem numB_digits {n : Int} (h0 : 0 ≤ n) (h1 : n ≤ 100000) : numB (digB n) = n:=by
  obtain ⟨u,rfl⟩ : ∃ u : Nat,n = u:=⟨n.toNat,by omega⟩
  have e : (digB (u : Int)).data.toList = Lib.decDigits u:=by
    rw [digB_in ⟨by omega,by omega⟩,digR_data]
    unfold Lib.itoa
    rw [if_neg (by omega)]
    simp
  have hs:=dec_short u (by omega)
  have hz : (digB (u : Int)).size = (Lib.decDigits u).length:=by rw [← e,Lib.size_eq]
  unfold numB
  rw [if_pos (by omega),e,dec_digits]
  simp only
  rw [beqS_refl,decide_eq_true (by omega)]
  rfl
theorem byte_dig {s : ByteArray} {i : Nat} (hi : i < s.size) : ∃ c : UInt8,s.data.toList.drop i = c :: s.data.toList.drop (i + 1) ∧ btS s (i : Int) = (c.toNat : Int):=by
  obtain ⟨c,h1,h2⟩:=bt_get hi
  obtain ⟨hlt,he⟩:=List.getElem?_eq_some_iff.1 h1
  exact ⟨c,by rw [List.drop_eq_getElem_cons hlt,he],h2⟩
end Go.Proofs.YtlddcimpdkcgeaaGreatDoor
