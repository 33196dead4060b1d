/- The row of the law and its tied card: what they say, from the contract. -/
import Derived.Test.YtlddcimpdkcgeaaDoorRows
import Derived.Test.YtlddcimpdkcgeaaDoorCards
import Derived.Test.YtlddcimpdkcgeaaDoorTie
import Derived.Test.YtlddcimpdkcgeaaDoorT6
import Derived.Test.YtlddcimpdkcgeaaDoorLHosts
import Derived.Test.YtlddcimpdkcgeaaDoorS14
import Derived.ProofKit
import Derived.OpenShut
import Derived.LaidMore
import Derived.Lay
import Derived.SevenTiedAt
import Derived.Stop.Joined
set_option linter.unusedVariables false
set_option maxRecDepth 100000
namespace Go.Proofs.YtlddcimpdkcgeaaDoor.RowHosts
open Go.RowKit Sym Go Go.ChangeShapes Go.WideShapes Go.ChangeAt

theorem own : ownKnob Tryd.prog.godebug = none:=by kernel_rfl
theorem laid : laidOutB Tryd.prog = true:=by kernel_rfl
theorem pars : Tryd.f4.params.toList = [22]:=by kernel_rfl
theorem args_of {H : Type} (enc : TypeId × Value → H) : ArgsAt enc Tryd.prog Tryd.f4.params.toList [fun x => ∃ ts : List Int,x = .d false (.sl (encB ts))]:=by
  rw [pars]
  exact ⟨arg_bytes enc,trivial⟩
theorem all_of : ∀ As,AllQ [fun x => ∃ ts : List Int,x = .d false (.sl (encB ts))] As → Ct Tryd.prog 4 As (.d true (.bool true)):=by
  intro As h
  match As,h with
  | [_],⟨⟨t0,rfl⟩,_⟩ => exact law_Hosts t0
theorem lifted (os : Os) (started : os.Started) (H : Type) (enc : TypeId × Value → H) :
    ReturnsInHanded {} Tryd.checked os 4 .any (fun w args => (Rows.fnHostsSpec.pre enc Tryd.prog Tryd.f4 Rows.fnHostsRow.domain false w args ∧ laidMetH Tryd.prog Rows.fnHostsRow.laid w) ∧ sizedMet enc Tryd.prog Tryd.f4 (OpenSpec.ofChange Rows.fnHostsSpec) false w args)
      (Rows.fnHostsSpec.post enc Tryd.prog Tryd.f4 false true false false):=by
  refine wrap_shaped (C:=Tryd.checked) (X:=fun w _ => laidMetH Tryd.prog Rows.fnHostsRow.laid w) (fun _ _ _ hh h => h.of_heap hh) own started (by kernel_rfl) Tryd.func4
    (ChangeSpec.witness_shaped (enc:=enc) (C:=Tryd.checked) (os:=os) (X:=fun w _ => laidMetH Tryd.prog Rows.fnHostsRow.laid w) false (World.laidAll Tryd.prog os Rows.fnHostsRow.laid) #[.slice none 0 0] 8 (World.laidAll_os _ _ _)
      (World.shaped_of_ZipB (by kernel_rfl) (by kernel_rfl)) (by kernel_rfl) (by kernel_rfl) (by kernel_rfl)
      (by rw [MakeChecks.laidMetH_plain _ _ _ (by kernel_rfl)];exact laidMet_laidAll _ (by kernel_rfl) (by kernel_rfl))) ?_
  intro W base args ds gs before hval hW hsz hL hsh
  refine law_post (P:=Tryd.prog) (fn:=Tryd.f4) laid (args_of enc) all_of rfl (t:=4) (by kernel_rfl) (by kernel_rfl) ?_ ?_ ⟨low_of_shaped hsh _ (by kernel_rfl),W,hsh,fun b _ => rfl⟩ hval hW hsz
  · intro ds h
    rw [pars] at h
    match ds,h with
    | [d0],_ => rfl
  · rw [pars]
    intro t ht
    simp only [List.mem_cons,List.not_mem_nil,or_false] at ht
    subst ht;exact ⟨by kernel_rfl,of_decide_eq_true (by kernel_rfl)⟩
theorem over : Rows.fnHostsRow.holds Tryd.pinned (OpenSpec.ofChange Rows.fnHostsSpec) :=
  OpenClaim.holds_of_wide 4 Tryd.f4 rfl rfl rfl rfl rfl rfl rfl ⟨rfl,rfl,rfl,rfl,rfl⟩ rfl rfl rfl rfl rfl (by kernel_rfl) Tryd.func4 (by kernel_rfl)
    (of_decide_eq_true (by kernel_rfl)) (by unfold Func.isWrapper;first|(rw [if_pos (by decide +kernel)];kernel_rfl)|(rw [if_neg (by decide +kernel)];exact ⟨rfl,rfl⟩))
    (fun os started H enc _ => lifted os started H enc)
theorem card : Rows.FnHostsCardSaid :=
  Claim7.holds_tied_plain_at .later [] [.data, .pinned] true (true, "ae67f2f77bb390550a13e51a5f76a23d080c25f84b39b6ac64c64d85ef03c6ee") false over (fun _ h => by cases h) (by kernel_rfl) (fun _ h => by cases h) fnHosts_row_tie rfl ⟨rfl, rfl⟩ (by kernel_rfl) rfl
    (fun f fn hf hfn => by
      obtain rfl : f = 4 := Option.some.inj ((show Tryd.prog.funcNamed "loop.example/g00328/laws.FnHosts" = some 4 by kernel_rfl).symm.trans hf) |>.symm
      obtain rfl : fn = Tryd.f4:=(Option.some.inj (Tryd.func4.symm.trans hfn)).symm
      exact ⟨by kernel_rfl,fun j t ht => by
        have hm : t ∈ Tryd.f4.params.toList:=by simpa using Array.mem_of_getElem? ht
        rw [pars] at hm
        have hall : ([22].all fun u => !Tryd.prog.wantsStandIn u) = true:=by kernel_rfl
        exact (show Tryd.prog.wantsStandIn t = false by simpa using List.all_eq_true.1 hall t hm)⟩)
    (by kernel_rfl)
end Go.Proofs.YtlddcimpdkcgeaaDoor.RowHosts
namespace Go.Proofs.YtlddcimpdkcgeaaDoor
theorem holdsHosts : Rows.FnHostsCardSaid:=RowHosts.card
#print axioms holdsHosts
end Go.Proofs.YtlddcimpdkcgeaaDoor
