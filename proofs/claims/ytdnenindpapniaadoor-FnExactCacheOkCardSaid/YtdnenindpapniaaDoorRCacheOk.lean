/- The row of the law and its tied card: what they say, from the contract. -/
import Derived.Test.YtdnenindpapniaaDoorRows
import Derived.Test.YtdnenindpapniaaDoorCards
import Derived.Test.YtdnenindpapniaaDoorTie
import Derived.Test.YtdnenindpapniaaDoorT4
import Derived.Test.YtdnenindpapniaaDoorLCacheOk
import Derived.Test.YtdnenindpapniaaDoorS14
import Derived.ProofKit
import Derived.OpenShut
import Derived.LaidMore
import Derived.Lay
import Derived.SevenTiedAt
import Derived.Stop.Joined
set_option linter.unusedVariables false
set_option maxRecDepth 100000
namespace Go.Proofs.YtdnenindpapniaaDoor.RowCacheOk
open Go.RowKit Sym Go Go.ChangeShapes Go.WideShapes Go.ChangeAt

theorem own : ownKnob Tryd.prog.godebug = none := by kernel_rfl
theorem laid : laidOutB Tryd.prog = true := by kernel_rfl
theorem pars : Tryd.f8.params.toList = [46] := by kernel_rfl
theorem args_of {H : Type} (enc : TypeId × Value → H) : ArgsAt enc Tryd.prog Tryd.f8.params.toList [fun x => ∃ ts : List Policy, x = .d false (.sl (encPs ts))] := by
  rw [pars]
  exact ⟨arg_policies enc, trivial⟩
theorem all_of : ∀ As, AllQ [fun x => ∃ ts : List Policy, x = .d false (.sl (encPs ts))] As → Ct Tryd.prog 8 As (.d true (.bool true)) := by
  intro As h
  match As, h with
  | [_], ⟨⟨t0, rfl⟩, _⟩ => exact law_CacheOk t0
theorem lifted (os : Os) (started : os.Started) (H : Type) (enc : TypeId × Value → H) :
    ReturnsInHanded {} Tryd.checked os 8 .any (fun w args => (Rows.fnExactCacheOkSpec.pre enc Tryd.prog Tryd.f8 Rows.fnExactCacheOkRow.domain false w args ∧ laidMetH Tryd.prog Rows.fnExactCacheOkRow.laid w) ∧ sizedMet enc Tryd.prog Tryd.f8 (OpenSpec.ofChange Rows.fnExactCacheOkSpec) false w args)
      (Rows.fnExactCacheOkSpec.post enc Tryd.prog Tryd.f8 false true false false) := by
  refine wrap_shaped (C := Tryd.checked) (X := fun w _ => laidMetH Tryd.prog Rows.fnExactCacheOkRow.laid w) (fun _ _ _ hh h => h.of_heap hh) own started (by kernel_rfl) Tryd.func8
    (ChangeSpec.witness_shaped (enc := enc) (C := Tryd.checked) (os := os) (X := fun w _ => laidMetH Tryd.prog Rows.fnExactCacheOkRow.laid w) false (World.laidAll Tryd.prog os Rows.fnExactCacheOkRow.laid) #[.slice none 0 0] 8 (World.laidAll_os _ _ _)
      (World.shaped_of_ZipB (by kernel_rfl) (by kernel_rfl)) (by kernel_rfl) (by kernel_rfl) (by kernel_rfl)
      (by rw [MakeChecks.laidMetH_plain _ _ _ (by kernel_rfl)]; exact laidMet_laidAll _ (by kernel_rfl) (by kernel_rfl))) ?_
  intro W base args ds gs before hval hW hsz hL hsh
  refine law_post (P := Tryd.prog) (fn := Tryd.f8) laid (args_of enc) all_of rfl (t := 4) (by kernel_rfl) (by kernel_rfl) ?_ ?_ ⟨low_of_shaped hsh _ (by kernel_rfl), W, hsh, fun b _ => rfl⟩ hval hW hsz
  · intro ds h
    rw [pars] at h
    match ds, h with
    | [d0], _ => rfl
  · rw [pars]
    intro t ht
    simp only [List.mem_cons, List.not_mem_nil, or_false] at ht
    subst ht; exact ⟨by kernel_rfl, of_decide_eq_true (by kernel_rfl)⟩
theorem over : Rows.fnExactCacheOkRow.holds Tryd.pinned (OpenSpec.ofChange Rows.fnExactCacheOkSpec) :=
  OpenClaim.holds_of_wide 8 Tryd.f8 rfl rfl rfl rfl rfl rfl rfl ⟨rfl, rfl, rfl, rfl, rfl⟩ rfl rfl rfl rfl rfl (by kernel_rfl) Tryd.func8 (by kernel_rfl)
    (of_decide_eq_true (by kernel_rfl)) (by unfold Func.isWrapper; first | (rw [if_pos (by decide +kernel)]; kernel_rfl) | (rw [if_neg (by decide +kernel)]; exact ⟨rfl, rfl⟩))
    (fun os started H enc _ => lifted os started H enc)
theorem card : Rows.FnExactCacheOkCardSaid :=
  Claim7.holds_tied_plain_at .later [] [.data, .pinned] true (true, "e9919ff842d832727a57eefc5e184f98eaeb3859dba8517b3ce2cb29643a5ee3") false over (fun _ h => by cases h) (by kernel_rfl) (fun _ h => by cases h) fnExactCacheOk_row_tie rfl ⟨rfl, rfl⟩ (by kernel_rfl) rfl
    (fun f fn hf hfn => by
      obtain rfl : f = 8 := Option.some.inj ((show Tryd.prog.funcNamed "loop.example/g00328/laws.FnExactCacheOk" = some 8 by kernel_rfl).symm.trans hf) |>.symm
      obtain rfl : fn = Tryd.f8 := (Option.some.inj (Tryd.func8.symm.trans hfn)).symm
      exact ⟨by kernel_rfl, fun j t ht => by
        have hm : t ∈ Tryd.f8.params.toList := by simpa using Array.mem_of_getElem? ht
        rw [pars] at hm
        have hall : ([46].all fun u => !Tryd.prog.wantsStandIn u) = true := by kernel_rfl
        exact (show Tryd.prog.wantsStandIn t = false by simpa using List.all_eq_true.1 hall t hm)⟩)
    (by kernel_rfl)
end Go.Proofs.YtdnenindpapniaaDoor.RowCacheOk
namespace Go.Proofs.YtdnenindpapniaaDoor
theorem holdsCacheOk : Rows.FnExactCacheOkCardSaid := RowCacheOk.card
#print axioms holdsCacheOk
end Go.Proofs.YtdnenindpapniaaDoor
