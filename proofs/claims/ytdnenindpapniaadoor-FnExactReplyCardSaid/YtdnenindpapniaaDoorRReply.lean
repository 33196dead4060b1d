/- The row of the law and its tied card: what they say, from the contract. -/
import Derived.Test.YtdnenindpapniaaDoorRows
import Derived.Test.YtdnenindpapniaaDoorCards
import Derived.Test.YtdnenindpapniaaDoorTie
import Derived.Test.YtdnenindpapniaaDoorT2
import Derived.Test.YtdnenindpapniaaDoorLReply
import Derived.Test.YtdnenindpapniaaDoorS14
import Derived.ProofKit
import Derived.OpenShut
import Derived.LaidMore
import Derived.Lay
import Derived.SevenTiedAt
import Derived.Stop.Joined
import Derived.Stop.LaidErr
set_option linter.unusedVariables false
set_option maxRecDepth 100000
namespace Go.Proofs.YtdnenindpapniaaDoor.RowReply
open Go.RowKit Sym Go Go.ChangeShapes Go.WideShapes Go.ChangeAt

theorem own : ownKnob Tryd.prog.godebug = none := by kernel_rfl
theorem laid : laidOutB Tryd.prog = true := by kernel_rfl
theorem pars : Tryd.f14.params.toList = [35, 35, 35, 35] := by kernel_rfl
theorem args_of {H : Type} (enc : TypeId × Value → H) : ArgsAt enc Tryd.prog Tryd.f14.params.toList [fun x => ∃ t : Term, x = t.v, fun x => ∃ t : Term, x = t.v, fun x => ∃ t : Term, x = t.v, fun x => ∃ t : Term, x = t.v] := by
  rw [pars]
  exact ⟨arg_term enc, arg_term enc, arg_term enc, arg_term enc, trivial⟩
theorem all_of : ∀ As, AllQ [fun x => ∃ t : Term, x = t.v, fun x => ∃ t : Term, x = t.v, fun x => ∃ t : Term, x = t.v, fun x => ∃ t : Term, x = t.v] As → Ct Tryd.prog 14 As (.d true (.bool true)) := by
  intro As h
  match As, h with
  | [_, _, _, _], ⟨⟨t0, rfl⟩, ⟨t1, rfl⟩, ⟨t2, rfl⟩, ⟨t3, rfl⟩, _⟩ => exact law_Reply t0 t1 t2 t3
theorem tab_of {W : World} (hL : laidMetH Tryd.prog Rows.fnExactReplyRow.laid W) : Lib.TabIs Tryd.prog W "internal/strconv.uint64pow10" .u64 Lib.pow10Tab := by
  rw [MakeChecks.laidMetH_plain _ _ _ (by kernel_rfl)] at hL
  have h1 : laidMet Tryd.prog [("math/bits.deBruijn32tab", Rows.laid_math_bits_deBruijn32tab), ("math/bits.deBruijn64tab", Rows.laid_math_bits_deBruijn64tab), ("internal/strconv.uint64pow10", Rows.laid_internal_strconv_uint64pow10)] W := hL
  have h3 := laidMet.tail (laidMet.tail h1)
  change laidMet Tryd.prog [("internal/strconv.uint64pow10", Rows.laid_internal_strconv_uint64pow10)] W at h3
  rw [show (Rows.laid_internal_strconv_uint64pow10 : DataW Unit) = Lib.tabData .u64 Lib.pow10Tab by kernel_rfl] at h3
  exact Lib.tabIs_of_head (g := 1) (t := 135) (e := 121) (n := 20) (by kernel_rfl) (by kernel_rfl) (by kernel_rfl) (by kernel_rfl) (by kernel_rfl) (by kernel_rfl) h3
theorem lifted (os : Os) (started : os.Started) (H : Type) (enc : TypeId × Value → H) :
    ReturnsInHanded {} Tryd.checked os 14 .any (fun w args => (Rows.fnExactReplySpec.pre enc Tryd.prog Tryd.f14 Rows.fnExactReplyRow.domain false w args ∧ laidMetH Tryd.prog Rows.fnExactReplyRow.laid w) ∧ sizedMet enc Tryd.prog Tryd.f14 (OpenSpec.ofChange Rows.fnExactReplySpec) false w args)
      (Rows.fnExactReplySpec.post enc Tryd.prog Tryd.f14 false true false false) := by
  refine wrap_shaped (C := Tryd.checked) (X := fun w _ => laidMetH Tryd.prog Rows.fnExactReplyRow.laid w) (fun _ _ _ hh h => h.of_heap hh) own started (by kernel_rfl) Tryd.func14
    (ChangeSpec.witness_shaped (enc := enc) (C := Tryd.checked) (os := os) (X := fun w _ => laidMetH Tryd.prog Rows.fnExactReplyRow.laid w) false (World.laidAll Tryd.prog os Rows.fnExactReplyRow.laid) #[.agg #[.int .i64 0, .int .i64 0, .string ⟨#[]⟩, .slice none 0 0], .agg #[.int .i64 0, .int .i64 0, .string ⟨#[]⟩, .slice none 0 0], .agg #[.int .i64 0, .int .i64 0, .string ⟨#[]⟩, .slice none 0 0], .agg #[.int .i64 0, .int .i64 0, .string ⟨#[]⟩, .slice none 0 0]] 8 (World.laidAll_os _ _ _)
      (World.shaped_of_ZipB (by kernel_rfl) (by kernel_rfl)) (by kernel_rfl) (by kernel_rfl) (by kernel_rfl)
      (by rw [MakeChecks.laidMetH_plain _ _ _ (by kernel_rfl)]; exact laidMet_laidAll _ (by kernel_rfl) (by kernel_rfl))) ?_
  intro W base args ds gs before hval hW hsz hL hsh
  refine law_post (P := Tryd.prog) (fn := Tryd.f14) laid (args_of enc) all_of rfl (t := 4) (by kernel_rfl) (by kernel_rfl) ?_ ?_ ⟨low_of_shaped hsh _ (by kernel_rfl), W, ⟨hsh, tab_of hL⟩, fun b _ => rfl⟩ hval hW hsz
  · intro ds h
    rw [pars] at h
    match ds, h with
    | [d0, d1, d2, d3], _ => rfl
  · rw [pars]
    intro t ht
    simp only [List.mem_cons, List.not_mem_nil, or_false] at ht
    rcases ht with rfl | rfl | rfl | rfl <;> exact ⟨by kernel_rfl, of_decide_eq_true (by kernel_rfl)⟩
theorem over : Rows.fnExactReplyRow.holds Tryd.pinned (OpenSpec.ofChange Rows.fnExactReplySpec) :=
  OpenClaim.holds_of_wide 14 Tryd.f14 rfl rfl rfl rfl rfl rfl rfl ⟨rfl, rfl, rfl, rfl, rfl⟩ rfl rfl rfl rfl rfl (by kernel_rfl) Tryd.func14 (by kernel_rfl)
    (of_decide_eq_true (by kernel_rfl)) (by unfold Func.isWrapper; first | (rw [if_pos (by decide +kernel)]; kernel_rfl) | (rw [if_neg (by decide +kernel)]; exact ⟨rfl, rfl⟩))
    (fun os started H enc _ => lifted os started H enc)
theorem card : Rows.FnExactReplyCardSaid :=
  Claim7.holds_tied_plain_at .later [] [.data, .data, .data] true (true, "e9919ff842d832727a57eefc5e184f98eaeb3859dba8517b3ce2cb29643a5ee3") false over (fun _ h => by cases h) (by kernel_rfl) (fun _ h => by cases h) fnExactReply_row_tie rfl ⟨rfl, rfl⟩ (by kernel_rfl) rfl
    (fun f fn hf hfn => by
      obtain rfl : f = 14 := Option.some.inj ((show Tryd.prog.funcNamed "loop.example/g00328/laws.FnExactReply" = some 14 by kernel_rfl).symm.trans hf) |>.symm
      obtain rfl : fn = Tryd.f14 := (Option.some.inj (Tryd.func14.symm.trans hfn)).symm
      exact ⟨by kernel_rfl, fun j t ht => by
        have hm : t ∈ Tryd.f14.params.toList := by simpa using Array.mem_of_getElem? ht
        rw [pars] at hm
        have hall : ([35, 35, 35, 35].all fun u => !Tryd.prog.wantsStandIn u) = true := by kernel_rfl
        exact (show Tryd.prog.wantsStandIn t = false by simpa using List.all_eq_true.1 hall t hm)⟩)
    (by kernel_rfl)
end Go.Proofs.YtdnenindpapniaaDoor.RowReply
namespace Go.Proofs.YtdnenindpapniaaDoor
theorem holdsReply : Rows.FnExactReplyCardSaid := RowReply.card
#print axioms holdsReply
end Go.Proofs.YtdnenindpapniaaDoor
