/- Marks: their text, and what marked terms are. -/
import Derived.Test.YtlddcimpdkcgeaaT1
import Derived.Test.YtlddcimpdkcgeaaFns
set_option linter.unusedVariables false
set_option linter.unusedSimpArgs false
set_option maxHeartbeats 2000000
namespace Go.Proofs.Ytlddcimpdkcgeaa
open Go.RowKit Sym

def mdig : Nat → Nat → ByteArray → ByteArray
  | 0, _, out => out
  | f + 1, k, out => if k = 0 then out else mdig f (k / 10) (⟨#[UInt8.ofNat (48 + k % 10)]⟩ ++ out)
def mtext (k : Int) : ByteArray := if k ≤ 0 then ⟨#[109, 48]⟩ else ⟨#[109]⟩ ++ mdig 20 k.toNat ⟨#[]⟩
attribute [irreducible] mdig mtext
theorem mdig_size : ∀ (f k : Nat) (out : ByteArray), out.size + f ≤ 20 → (mdig f k out).size ≤ 20
  | 0, _, out, h => by simpa [mdig] using h
  | f + 1, k, out, h => by
    rw [mdig]
    split
    · omega
    · refine mdig_size f _ _ ?_
      rw [ByteArray.size_append]
      have : (⟨#[UInt8.ofNat (48 + k % 10)]⟩ : ByteArray).size = 1 := rfl
      omega

theorem byte_wrap (k : Nat) : IntKind.u8.wrap (wrap64 (48 + (k : Int).tmod 10)) = ((48 + k % 10 : Nat) : Int) := by
  rw [Int.tmod_eq_emod_of_nonneg (by omega)]
  rw [w64 (by omega) (by omega)]
  simp only [IntKind.wrap, IntKind.signed, IntKind.bits]
  simp
  omega

/-! ### Marked terms -/
mutual
def Term.nods : Term → Nat
  | .mk _ _ _ kids => 1 + nodsL kids
def nodsL : List Term → Nat
  | [] => 0
  | t :: ts => t.nods + nodsL ts
end
mutual
def markT (k : Int) : Term → Term
  | .mk _ _ _ kids => .mk k (k + 1) (mtext (k + 2)) (markTs (k + 3) kids)
def markTs (k : Int) : List Term → List Term
  | [] => []
  | t :: ts => markT k t :: markTs (k + 3 * t.nods) ts
end
theorem Term.nods_eq (t : Term) : t.nods = 1 + nodsL t.kids := by cases t; simp [Term.nods, Term.kids]
theorem markT_eq (k : Int) (t : Term) : markT k t = .mk k (k + 1) (mtext (k + 2)) (markTs (k + 3) t.kids) := by cases t; simp [markT, Term.kids]
theorem markTs_length : ∀ (k : Int) (ts : List Term), (markTs k ts).length = ts.length
  | _, [] => by simp [markTs]
  | k, t :: ts => by simp [markTs, markTs_length _ ts]
theorem nodsL_take (ts : List Term) (i : Nat) (h : i < ts.length) : nodsL (ts.take (i + 1)) = nodsL (ts.take i) + ts[i].nods := by
  induction ts generalizing i with
  | nil => simp at h
  | cons t ts ih =>
    cases i with
    | zero => simp [nodsL]
    | succ i => simp only [List.take_succ_cons, nodsL, List.getElem_cons_succ]; rw [ih i (by simpa using h)]; omega
theorem nodsL_take_le (ts : List Term) (i : Nat) : nodsL (ts.take i) ≤ nodsL ts := by
  induction ts generalizing i with
  | nil => simp [nodsL]
  | cons t ts ih =>
    cases i with
    | zero => simp [nodsL]
    | succ i => simp only [List.take_succ_cons, nodsL]; have := ih i; omega
theorem nodsL_mem {ts : List Term} {u : Term} (h : u ∈ ts) : u.nods ≤ nodsL ts := by
  induction ts with
  | nil => cases h
  | cons t ts ih =>
    simp only [nodsL]
    rcases List.mem_cons.1 h with rfl | h
    · omega
    · have := ih h; omega
theorem markTs_get (k : Int) (ts : List Term) (i : Nat) (h : i < ts.length) : (markTs k ts)[i]? = some (markT (k + 3 * nodsL (ts.take i)) ts[i]) := by
  induction ts generalizing i k with
  | nil => simp at h
  | cons t ts ih =>
    cases i with
    | zero => simp [markTs, nodsL]
    | succ i =>
      simp only [markTs, List.getElem?_cons_succ, List.take_succ_cons, nodsL, List.getElem_cons_succ]
      rw [ih _ i (by simpa using h)]
      congr 2
      push_cast
      omega

theorem nodsL_step (ts : List Term) (i : Nat) (h : i < ts.length) : nodsL (ts.take (i + 1)) = nodsL (ts.take i) + (1 + nodsL ts[i].kids) ∧ nodsL (ts.take (i + 1)) ≤ nodsL ts := by
  rw [nodsL_take ts i h, Term.nods_eq]
  exact ⟨rfl, by have := nodsL_take_le ts (i + 1); rw [nodsL_take ts i h, Term.nods_eq] at this; exact this⟩

end Go.Proofs.Ytlddcimpdkcgeaa
