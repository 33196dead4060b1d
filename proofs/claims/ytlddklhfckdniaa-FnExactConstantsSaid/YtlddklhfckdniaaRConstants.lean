/- The row of the law: what it says, from the contract. -/
import Derived.Test.YtlddklhfckdniaaRows
import Derived.Test.YtlddklhfckdniaaT2
import Derived.Test.YtlddklhfckdniaaLConstants
import Derived.OpenShut
import Derived.SizedLaws
set_option linter.unusedVariables false
set_option maxRecDepth 100000
namespace Go.Proofs.Ytlddklhfckdniaa.RowConstants
open Go.RowKit Sym Go Go.ChangeShapes Go.WideShapes Go.ChangeAt

theorem own : ownKnob Try.prog.godebug = none := by kernel_rfl
theorem laid : laidOutB Try.prog = true := by kernel_rfl
theorem pars : Try.f3.params.toList = [] := by kernel_rfl
theorem args_of {H : Type} (enc : TypeId × Value → H) : ArgsAt enc Try.prog Try.f3.params.toList [] := by
  rw [pars]
  exact trivial
theorem all_of : ∀ As, AllQ [] As → Ct Try.prog 3 As (.d true (.bool true)) := by
  intro As h
  match As, h with
  | [], _ => exact law_Constants 
theorem lifted (os : Os) (started : os.Started) (H : Type) (enc : TypeId × Value → H) :
    ReturnsInHanded {} Try.checked os 3 .any (Rows.fnExactConstantsSpec.pre6 enc Try.prog Try.f3 Rows.fnExactConstantsRow.domain false) (Rows.fnExactConstantsSpec.post enc Try.prog Try.f3 false true false false) := by
  refine returnsInHanded_of_change_sized (C := Try.checked) own started (by kernel_rfl) Try.func3
    (ChangeSpec.witness6 (enc := enc) (C := Try.checked) false ⟨#[], #[], []⟩ 8 (by kernel_rfl) (by kernel_rfl) (by kernel_rfl) (by kernel_rfl)) ?_
  intro W base args ds gs before hval hW _ hsz _
  refine law_post (P := Try.prog) (fn := Try.f3) laid (args_of enc) all_of rfl (t := 4) (by kernel_rfl) (by kernel_rfl) ?_ ?_ hval hW hsz
  · intro ds h
    rw [pars] at h
    match ds, h with
    | [], _ => rfl
  · rw [pars]
    intro t ht
    cases ht
theorem over : Rows.fnExactConstantsRow.holds Try.pinned (OpenSpec.ofChange Rows.fnExactConstantsSpec) :=
  OpenClaim.holds_of_wide 3 Try.f3 rfl rfl rfl rfl rfl rfl rfl ⟨rfl, rfl, rfl, rfl, rfl⟩ rfl rfl rfl rfl rfl (by kernel_rfl) Try.func3 (by kernel_rfl)
    (of_decide_eq_true (by kernel_rfl)) (by unfold Func.isWrapper; first | (rw [if_pos (by decide +kernel)]; kernel_rfl) | (rw [if_neg (by decide +kernel)]; exact ⟨rfl, rfl⟩))
    (fun os started H enc _ => lifted os started H enc)
end Go.Proofs.Ytlddklhfckdniaa.RowConstants
namespace Go.Proofs.Ytlddklhfckdniaa
theorem holdsConstants : Rows.FnExactConstantsSaid := RowConstants.over
#print axioms holdsConstants
end Go.Proofs.Ytlddklhfckdniaa
