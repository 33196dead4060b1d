/- The row of the law and its tied card: what they say, from the contract. -/
import Derived.Test.YtdnenindpapniaaDoorRows
import Derived.Test.YtdnenindpapniaaDoorCards
import Derived.Test.YtdnenindpapniaaDoorTie
import Derived.Test.YtdnenindpapniaaDoorLCertOk
import Derived.Test.YtdnenindpapniaaDoorS14
import Derived.ProofKit
import Derived.OpenShut
import Derived.LaidMore
import Derived.Lay
import Derived.SevenTiedAt
import Derived.Stop.Joined
set_option linter.unusedVariables false
set_option maxRecDepth 100000
namespace Go.Proofs.YtdnenindpapniaaDoor.RowCertOk
open Go.RowKit Sym Go Go.ChangeShapes Go.WideShapes Go.ChangeAt

theorem own : ownKnob Tryd.prog.godebug = none := by kernel_rfl
theorem laid : laidOutB Tryd.prog = true := by kernel_rfl
theorem pars : Tryd.f9.params.toList = [54] := by kernel_rfl
theorem args_of {H : Type} (enc : TypeId × Value → H) : ArgsAt enc Tryd.prog Tryd.f9.params.toList [fun x => ∃ t : Cert, x = t.v] := by
  rw [pars]
  exact ⟨arg_cert enc, trivial⟩
theorem all_of : ∀ As, AllQ [fun x => ∃ t : Cert, x = t.v] As → Ct Tryd.prog 9 As (.d true (.bool true)) := by
  intro As h
  match As, h with
  | [_], ⟨⟨t0, rfl⟩, _⟩ => exact law_CertOk t0
theorem lifted (os : Os) (started : os.Started) (H : Type) (enc : TypeId × Value → H) :
    ReturnsInHanded {} Tryd.checked os 9 .any (fun w args => (Rows.fnExactCertOkSpec.pre enc Tryd.prog Tryd.f9 Rows.fnExactCertOkRow.domain false w args ∧ laidMetH Tryd.prog Rows.fnExactCertOkRow.laid w) ∧ sizedMet enc Tryd.prog Tryd.f9 (OpenSpec.ofChange Rows.fnExactCertOkSpec) false w args)
      (Rows.fnExactCertOkSpec.post enc Tryd.prog Tryd.f9 false true false false) := by
  refine wrap_shaped (C := Tryd.checked) (X := fun w _ => laidMetH Tryd.prog Rows.fnExactCertOkRow.laid w) (fun _ _ _ hh h => h.of_heap hh) own started (by kernel_rfl) Tryd.func9
    (ChangeSpec.witness_shaped (enc := enc) (C := Tryd.checked) (os := os) (X := fun w _ => laidMetH Tryd.prog Rows.fnExactCertOkRow.laid w) false (World.laidAll Tryd.prog os Rows.fnExactCertOkRow.laid) #[.agg #[.string ⟨#[]⟩, .int .i64 0, .int .i64 0, .string ⟨#[]⟩, .slice none 0 0, .int .i64 0]] 8 (World.laidAll_os _ _ _)
      (World.shaped_of_ZipB (by kernel_rfl) (by kernel_rfl)) (by kernel_rfl) (by kernel_rfl) (by kernel_rfl)
      (by rw [MakeChecks.laidMetH_plain _ _ _ (by kernel_rfl)]; exact laidMet_laidAll _ (by kernel_rfl) (by kernel_rfl))) ?_
  intro W base args ds gs before hval hW hsz hL hsh
  refine law_post (P := Tryd.prog) (fn := Tryd.f9) laid (args_of enc) all_of rfl (t := 4) (by kernel_rfl) (by kernel_rfl) ?_ ?_ ⟨low_of_shaped hsh _ (by kernel_rfl), W, hsh, fun b _ => rfl⟩ hval hW hsz
  · intro ds h
    rw [pars] at h
    match ds, h with
    | [d0], _ => rfl
  · rw [pars]
    intro t ht
    simp only [List.mem_cons, List.not_mem_nil, or_false] at ht
    subst ht; exact ⟨by kernel_rfl, of_decide_eq_true (by kernel_rfl)⟩
theorem over : Rows.fnExactCertOkRow.holds Tryd.pinned (OpenSpec.ofChange Rows.fnExactCertOkSpec) :=
  OpenClaim.holds_of_wide 9 Tryd.f9 rfl rfl rfl rfl rfl rfl rfl ⟨rfl, rfl, rfl, rfl, rfl⟩ rfl rfl rfl rfl rfl (by kernel_rfl) Tryd.func9 (by kernel_rfl)
    (of_decide_eq_true (by kernel_rfl)) (by unfold Func.isWrapper; first | (rw [if_pos (by decide +kernel)]; kernel_rfl) | (rw [if_neg (by decide +kernel)]; exact ⟨rfl, rfl⟩))
    (fun os started H enc _ => lifted os started H enc)
theorem card : Rows.FnExactCertOkCardSaid :=
  Claim7.holds_tied_plain_at .later [] [.data, .pinned] true (true, "e9919ff842d832727a57eefc5e184f98eaeb3859dba8517b3ce2cb29643a5ee3") false over (fun _ h => by cases h) (by kernel_rfl) (fun _ h => by cases h) fnExactCertOk_row_tie rfl ⟨rfl, rfl⟩ (by kernel_rfl) rfl
    (fun f fn hf hfn => by
      obtain rfl : f = 9 := Option.some.inj ((show Tryd.prog.funcNamed "loop.example/g00328/laws.FnExactCertOk" = some 9 by kernel_rfl).symm.trans hf) |>.symm
      obtain rfl : fn = Tryd.f9 := (Option.some.inj (Tryd.func9.symm.trans hfn)).symm
      exact ⟨by kernel_rfl, fun j t ht => by
        have hm : t ∈ Tryd.f9.params.toList := by simpa using Array.mem_of_getElem? ht
        rw [pars] at hm
        have hall : ([54].all fun u => !Tryd.prog.wantsStandIn u) = true := by kernel_rfl
        exact (show Tryd.prog.wantsStandIn t = false by simpa using List.all_eq_true.1 hall t hm)⟩)
    (by kernel_rfl)
end Go.Proofs.YtdnenindpapniaaDoor.RowCertOk
namespace Go.Proofs.YtdnenindpapniaaDoor
theorem holdsCertOk : Rows.FnExactCertOkCardSaid := RowCertOk.card
#print axioms holdsCertOk
end Go.Proofs.YtdnenindpapniaaDoor
