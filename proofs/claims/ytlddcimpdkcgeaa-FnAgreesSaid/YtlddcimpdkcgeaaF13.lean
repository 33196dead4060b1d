/- What a greeting holds. -/
import Derived.Test.YtlddcimpdkcgeaaF12
set_option linter.unusedVariables false
set_option maxRecDepth 20000
set_option maxHeartbeats 4000000
set_option linter.unusedSimpArgs false
namespace Go.Proofs.Ytlddcimpdkcgeaa
open Go.RowKit Sym
attribute [local irreducible] awp aops aopsQ gop gopQ gopO gopOQ gopV gopT awpN awpT awpTs ACall after

/-- The second kid of a pair whose first one is a text. -/
def namedT (t : Term) (s : ByteArray) : Option Term := match t.kids with
  | [x, y] => if okT t = true ∧ t.op = 3 ∧ eqT x (textT s) = true then some y else none
  | _ => none
theorem namedT_mem {t : Term} {s : ByteArray} {y : Term} (h : namedT t s = some y) : y ∈ t.kids := by
  unfold namedT at h
  split at h
  · rename_i x y' hk
    split at h
    · simp only [Option.some.injEq] at h; subst h; rw [hk]; simp
    · cases h
  · cases h
theorem namedT_no {t : Term} {s : ByteArray} (h : okT t = false ∨ t.op ≠ 3) : namedT t s = none := by
  unfold namedT
  split
  · rw [if_neg]
    rintro ⟨h1, h2, h3⟩
    rcases h with h | h
    · rw [h1] at h; cases h
    · exact h h2
  · rfl
theorem namedT_two {t : Term} {s : ByteArray} {x y : Term} (h : okT t = true) (h3 : t.op = 3) (hk : t.kids = [x, y]) : namedT t s = bif eqT x (textT s) then some y else none := by
  unfold namedT
  rw [hk]
  cases he : eqT x (textT s) <;> simp [h, h3, he]
def helloOfT (t : Term) : Option Term := match namedT t helloS with
  | some y => if y.op = 4 then some y else none
  | none => none

/-- The kids of a pair. -/
def twoT (t : Term) : Option (Term × Term) := match t.kids with
  | [x, y] => if t.op = 3 then some (x, y) else none
  | _ => none
@[reducible] def two2V (o : Option (Term × Term)) : A := .tup [((o.map (·.1)).getD noT).v, ((o.map (·.2)).getD noT).v, .d true (.bool o.isSome)]
theorem helloOfT_cnt (t : Term) : ((helloOfT t).getD noT).cnt ≤ t.cnt + 10 := by
  have h0 := noT_cnt
  unfold helloOfT
  cases h1 : namedT t helloS with
  | none => simp only [Option.getD_none]; omega
  | some y =>
    have := cnt_mem (namedT_mem h1)
    by_cases h4 : y.op = 4
    · simp only [if_pos h4, Option.getD_some]; omega
    · simp only [if_neg h4, Option.getD_none]; omega
end Go.Proofs.Ytlddcimpdkcgeaa
