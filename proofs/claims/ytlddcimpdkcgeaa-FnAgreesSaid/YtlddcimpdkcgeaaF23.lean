/- Two come to the same from both sides. -/
import Derived.Test.YtlddcimpdkcgeaaF22
import Derived.Test.YtlddcimpdkcgeaaF14
set_option linter.unusedVariables false
set_option linter.unusedSimpArgs false
set_option maxRecDepth 20000
set_option maxHeartbeats 4000000
namespace Go.Proofs.Ytlddcimpdkcgeaa
open Go Go.RowKit Sym

theorem share_comm (a b : Term) : shareT a b = shareT b a := by
  unfold shareT
  cases h1 : befT b a with
  | true =>
    rw [bef_asymm h1]
    rfl
  | false =>
    cases h2 : befT a b with
    | true => rfl
    | false => rw [bef_total h1 h2]
theorem share_kids (a b : Term) : (shareT a b).kids = [a, b] ∨ (shareT a b).kids = [b, a] := by
  unfold shareT
  cases befT b a with
  | true => exact .inr rfl
  | false => exact .inl rfl
theorem share_right {a b : Term} (ha : a.cnt ≤ 4194000) (hb : b.cnt ≤ 4194000) (h : okT (shareT a b) = true) : rightT a = true ∧ (shareT a b).size = 1 + ((a.nods : Int) + b.nods) := by
  have hr := ok_right h
  have hm : a ∈ (shareT a b).kids := by rcases share_kids a b with h | h <;> rw [h] <;> simp
  refine ⟨right_mem hr hm, ?_⟩
  have hn : (shareT a b).nods = 1 + (a.nods + b.nods) := by
    rw [Term.nods_eq]
    rcases share_kids a b with h | h <;> rw [h] <;> simp only [nodsL] <;> omega
  have hc := shareT_cnt a b
  rw [size_of (by omega), hn]
  omega
theorem agree_inv {a p x : Term} (h : agreeT a p = some x) : ∃ b, p.kids = [b] ∧ okT p = true ∧ p.op = 4 ∧ x = shareT a b ∧ okT x = true := by
  unfold agreeT at h
  split at h
  · rename_i b hk
    split at h
    · rename_i hh
      simp only [Option.some.injEq] at h
      subst h
      exact ⟨b, hk, hh.1, hh.2.1, rfl, hh.2.2⟩
    · cases h
  · cases h
/-- The other side comes to it too, as far as its half may be told. -/
theorem agree_back {a p x b : Term} (ha : a.cnt ≤ 4194000) (hp : p.cnt ≤ 4194000) (hk : p.kids = [b]) (h : agreeT a p = some x) (hs : x.size + 1 ≤ 200) : agreeT b (rightOr (.mk 4 0 ⟨#[]⟩ [a])) = some x := by
  obtain ⟨b', hk', h1, h2, rfl, h3⟩ := agree_inv h
  rw [hk] at hk'
  simp only [List.cons.injEq, and_true] at hk'
  subst hk'
  have hb : b.cnt ≤ 4194000 := by have := cnt_mem (t := p) (x := b) (by rw [hk]; simp); omega
  obtain ⟨g1, g2⟩ := share_right ha hb h3
  have hpb := nods_pos b
  have hok : okT (.mk 4 0 ⟨#[]⟩ [a]) = true := pub_ok g1 (by omega)
  have hr : rightOr (.mk 4 0 ⟨#[]⟩ [a]) = .mk 4 0 ⟨#[]⟩ [a] := by unfold rightOr; rw [hok]; rfl
  rw [hr, agreeT_one hok rfl rfl, share_comm b a, h3]
  rfl
end Go.Proofs.Ytlddcimpdkcgeaa
