/- Bytes as the argument of a law. -/
import Derived.Test.YtlddcimpdkcgeaaG1
import Derived.Test.YtlddcimpdkcgeaaS13
import Derived.Test.YtlddcimpdkcgeaaProg
set_option linter.unusedVariables false
set_option maxRecDepth 20000
set_option linter.unusedSimpArgs false
namespace Go.Proofs.Ytlddcimpdkcgeaa
open Go.RowKit Sym Go

theorem encB_of : ∀ {xs : List (List D)},(∀ l,l ∈ xs → ∃ m,l = [D.int .u8 m]) → ∃ b,xs = encB b
  | [],_ => ⟨[],rfl⟩
  | x :: xs,h => by
    obtain ⟨m,rfl⟩:=h x (by simp)
    obtain ⟨b,rfl⟩:=encB_of (xs:=xs) (fun l hl => h l (by simp [hl]))
    exact ⟨m :: b,rfl⟩
theorem arg_bytes {H : Type} (enc : TypeId × Value → H) : ArgAt enc Try.prog 22 (fun x => ∃ b : List Int,x = .d false (.sl (encB b))):=by
  intro w b0 v d ps hv hd hw
  obtain ⟨x,hx,xs,rfl,h⟩:=arg_slice (enc:=enc) (e:=5) (by kernel_rfl) (fun w n => dec_slice (e:=5) (Q:=fun l => ∃ m,l = [D.int .u8 m]) (k:=1) (by kernel_rfl) (by kernel_rfl) (by decide) (of_decide_eq_true (by kernel_rfl)) (fun m' hm' => (dec_int (t:=5) (k:=.u8) (by kernel_rfl)).mono (by rintro ds ⟨m,rfl⟩;exact ⟨rfl,m,rfl⟩))) w b0 v d ps hv hd hw
  obtain ⟨b,rfl⟩:=encB_of h
  exact ⟨_,hx,b,rfl⟩
end Go.Proofs.Ytlddcimpdkcgeaa
