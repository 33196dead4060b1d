/- The row of the law and its tied card: what they say, from the contract. -/
import Derived.Test.YtlddcimpdkcgeaaDoorRows
import Derived.Test.YtlddcimpdkcgeaaDoorCards
import Derived.Test.YtlddcimpdkcgeaaDoorTie
import Derived.Test.YtlddcimpdkcgeaaDoorT6
import Derived.Test.YtlddcimpdkcgeaaDoorLHidden
import Derived.Test.YtlddcimpdkcgeaaDoorS14
import Derived.ProofKit
import Derived.OpenShut
import Derived.LaidMore
import Derived.Lay
import Derived.SevenTiedAt
import Derived.Stop.Joined
import Derived.Stop.LaidErr
set_option linter.unusedVariables false
set_option maxRecDepth 100000
namespace Go.Proofs.YtlddcimpdkcgeaaDoor.RowHidden
open Go.RowKit Sym Go Go.ChangeShapes Go.WideShapes Go.ChangeAt

theorem own : ownKnob Tryd.prog.godebug = none:=by kernel_rfl
theorem laid : laidOutB Tryd.prog = true:=by kernel_rfl
theorem pars : Tryd.f3.params.toList = [22]:=by kernel_rfl
theorem args_of {H : Type} (enc : TypeId × Value → H) : ArgsAt enc Tryd.prog Tryd.f3.params.toList [fun x => ∃ ts : List Int,x = .d false (.sl (encB ts))]:=by
  rw [pars]
  exact ⟨arg_bytes enc,trivial⟩
theorem all_of : ∀ As,AllQ [fun x => ∃ ts : List Int,x = .d false (.sl (encB ts))] As → Ct Tryd.prog 3 As (.d true (.bool true)):=by
  intro As h
  match As,h with
  | [_],⟨⟨t0,rfl⟩,_⟩ => exact law_Hidden t0
theorem tab_of {W : World} (hL : laidMetH Tryd.prog Rows.fnHiddenRow.laid W) : Lib.TabIs Tryd.prog W "internal/strconv.uint64pow10" .u64 Lib.pow10Tab := by
  rw [MakeChecks.laidMetH_plain _ _ _ (by kernel_rfl)] at hL
  have h1 : laidMet Tryd.prog [("math/bits.deBruijn32tab", Rows.laid_math_bits_deBruijn32tab), ("math/bits.deBruijn64tab", Rows.laid_math_bits_deBruijn64tab), ("internal/strconv.uint64pow10", Rows.laid_internal_strconv_uint64pow10)] W := hL
  have h3:=laidMet.tail (laidMet.tail (h1))
  change laidMet Tryd.prog [("internal/strconv.uint64pow10", Rows.laid_internal_strconv_uint64pow10)] W at h3
  rw [show (Rows.laid_internal_strconv_uint64pow10 : DataW Unit) = Lib.tabData .u64 Lib.pow10Tab by kernel_rfl] at h3
  exact Lib.tabIs_of_head (g:=1) (t:=159) (e:=147) (n:=20) (by kernel_rfl) (by kernel_rfl) (by kernel_rfl) (by kernel_rfl) (by kernel_rfl) (by kernel_rfl) h3
theorem lifted (os : Os) (started : os.Started) (H : Type) (enc : TypeId × Value → H) :
    ReturnsInHanded {} Tryd.checked os 3 .any (fun w args => (Rows.fnHiddenSpec.pre enc Tryd.prog Tryd.f3 Rows.fnHiddenRow.domain false w args ∧ laidMetH Tryd.prog Rows.fnHiddenRow.laid w) ∧ sizedMet enc Tryd.prog Tryd.f3 (OpenSpec.ofChange Rows.fnHiddenSpec) false w args)
      (Rows.fnHiddenSpec.post enc Tryd.prog Tryd.f3 false true false false):=by
  refine wrap_shaped (C:=Tryd.checked) (X:=fun w _ => laidMetH Tryd.prog Rows.fnHiddenRow.laid w) (fun _ _ _ hh h => h.of_heap hh) own started (by kernel_rfl) Tryd.func3
    (ChangeSpec.witness_shaped (enc:=enc) (C:=Tryd.checked) (os:=os) (X:=fun w _ => laidMetH Tryd.prog Rows.fnHiddenRow.laid w) false (World.laidAll Tryd.prog os Rows.fnHiddenRow.laid) #[.slice none 0 0] 8 (World.laidAll_os _ _ _)
      (World.shaped_of_ZipB (by kernel_rfl) (by kernel_rfl)) (by kernel_rfl) (by kernel_rfl) (by kernel_rfl)
      (by rw [MakeChecks.laidMetH_plain _ _ _ (by kernel_rfl)];exact laidMet_laidAll _ (by kernel_rfl) (by kernel_rfl))) ?_
  intro W base args ds gs before hval hW hsz hL hsh
  refine law_post (P:=Tryd.prog) (fn:=Tryd.f3) laid (args_of enc) all_of rfl (t:=4) (by kernel_rfl) (by kernel_rfl) ?_ ?_ ⟨low_of_shaped hsh _ (by kernel_rfl),W,⟨hsh,tab_of hL⟩,fun b _ => rfl⟩ hval hW hsz
  · intro ds h
    rw [pars] at h
    match ds,h with
    | [d0],_ => rfl
  · rw [pars]
    intro t ht
    simp only [List.mem_cons,List.not_mem_nil,or_false] at ht
    subst ht;exact ⟨by kernel_rfl,of_decide_eq_true (by kernel_rfl)⟩
theorem over : Rows.fnHiddenRow.holds Tryd.pinned (OpenSpec.ofChange Rows.fnHiddenSpec) :=
  OpenClaim.holds_of_wide 3 Tryd.f3 rfl rfl rfl rfl rfl rfl rfl ⟨rfl,rfl,rfl,rfl,rfl⟩ rfl rfl rfl rfl rfl (by kernel_rfl) Tryd.func3 (by kernel_rfl)
    (of_decide_eq_true (by kernel_rfl)) (by unfold Func.isWrapper;first|(rw [if_pos (by decide +kernel)];kernel_rfl)|(rw [if_neg (by decide +kernel)];exact ⟨rfl,rfl⟩))
    (fun os started H enc _ => lifted os started H enc)
theorem card : Rows.FnHiddenCardSaid :=
  Claim7.holds_tied_plain_at .later [] [.data, .data, .data] true (true, "ae67f2f77bb390550a13e51a5f76a23d080c25f84b39b6ac64c64d85ef03c6ee") false over (fun _ h => by cases h) (by kernel_rfl) (fun _ h => by cases h) fnHidden_row_tie rfl ⟨rfl, rfl⟩ (by kernel_rfl) rfl
    (fun f fn hf hfn => by
      obtain rfl : f = 3 := Option.some.inj ((show Tryd.prog.funcNamed "loop.example/g00328/laws.FnHidden" = some 3 by kernel_rfl).symm.trans hf) |>.symm
      obtain rfl : fn = Tryd.f3:=(Option.some.inj (Tryd.func3.symm.trans hfn)).symm
      exact ⟨by kernel_rfl,fun j t ht => by
        have hm : t ∈ Tryd.f3.params.toList:=by simpa using Array.mem_of_getElem? ht
        rw [pars] at hm
        have hall : ([22].all fun u => !Tryd.prog.wantsStandIn u) = true:=by kernel_rfl
        exact (show Tryd.prog.wantsStandIn t = false by simpa using List.all_eq_true.1 hall t hm)⟩)
    (by kernel_rfl)
end Go.Proofs.YtlddcimpdkcgeaaDoor.RowHidden
namespace Go.Proofs.YtlddcimpdkcgeaaDoor
theorem holdsHidden : Rows.FnHiddenCardSaid:=RowHidden.card
#print axioms holdsHidden
end Go.Proofs.YtlddcimpdkcgeaaDoor
