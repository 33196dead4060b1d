/- The function that marks terms. -/
import Derived.Test.YtockalkgjoaicaaM2
import Derived.WalkKit
import Derived.ProofKit
set_option linter.unusedVariables false
set_option linter.unusedSimpArgs false
set_option maxHeartbeats 2000000
namespace Go.Proofs.Ytockalkgjoaicaa
open Go Go.RowKit Sym

theorem Laid.set {w : World} (h : Laid w) {p : Addr} {v : Value} (hp : lowB ≤ p.block) : Laid (w.setCell p v):=h.fr (Fr.set (B:=fun b => b = p.block) w p v rfl) (by rintro _ rfl;exact hp)
theorem Laid.drew {w : World} (h : Laid w) : Laid w.drew:=h.fr (Fr.drew (B:=fun _ => False) w) (fun _ h => h.elim)

theorem markText_any (k : Int) (h : k ≤ 9223372036854775807) (h' : -9223372036854775808 ≤ k) (w : World) (hL : Laid w) : Calls Try.prog 18 #[.int .i64 k] w fun e w' => e = .returned (.string (mtext k)) ∧ (mtext k).size ≤ 4611686018427387904 ∧ Fr (fun _ => False) w w':=by
  refine ((markText_ct k h).2 w (fun _ => False) [.int .i64 k] hL (fun b hb => hb.elim) ?_).mono ?_
  · simp only [VSimL,VSim,and_true]
    exact .int _ _ (by rw [i64_min];exact h') (by rw [i64_max];exact h)
  · rintro e w' ⟨v,rfl,hx,hv⟩
    have:=vstr hv
    rw [this.1]
    exact ⟨rfl,this.2,hx⟩

end Go.Proofs.Ytockalkgjoaicaa
