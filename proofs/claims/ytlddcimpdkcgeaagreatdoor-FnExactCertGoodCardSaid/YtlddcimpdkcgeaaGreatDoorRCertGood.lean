/- The row of the law and its tied card: what they say, from the contract. -/
import Derived.Test.YtlddcimpdkcgeaaGreatDoorRows
import Derived.Test.YtlddcimpdkcgeaaGreatDoorCards
import Derived.Test.YtlddcimpdkcgeaaGreatDoorTie
import Derived.Test.YtlddcimpdkcgeaaGreatDoorT2
import Derived.Test.YtlddcimpdkcgeaaGreatDoorLCertGood
import Derived.Test.YtlddcimpdkcgeaaGreatDoorS14
import Derived.ProofKit
import Derived.OpenShut
import Derived.LaidMore
import Derived.Lay
import Derived.SevenTiedAt
import Derived.Stop.Joined
import Derived.Stop.LaidErr
set_option linter.unusedVariables false
set_option linter.unusedSimpArgs false
set_option maxRecDepth 100000
namespace Go.Proofs.YtlddcimpdkcgeaaGreatDoor.RowCertGood
open Go.RowKit Sym Go Go.ChangeShapes Go.WideShapes Go.ChangeAt
theorem own : ownKnob Tryz.prog.godebug = none:=by kernel_rfl
theorem laid : laidOutB Tryz.prog = true:=by kernel_rfl
theorem pars : Tryz.f3.params.toList = [24,9,3]:=by kernel_rfl
theorem args_of {H : Type} (enc : TypeId × Value → H) : ArgsAt enc Tryz.prog Tryz.f3.params.toList [fun x => ∃ t : Term,x = t.v,fun x => ∃ m,x = .d false (.str m),fun x => ∃ m,x = .d false (.int .i64 m)]:=by
  rw [pars]
  exact ⟨arg_term enc,arg_str (enc:=enc) (by kernel_rfl),arg_int (enc:=enc) (k:=.i64) (by kernel_rfl),trivial⟩
theorem all_of : ∀ As,AllQ [fun x => ∃ t : Term,x = t.v,fun x => ∃ m,x = .d false (.str m),fun x => ∃ m,x = .d false (.int .i64 m)] As → Ct Tryz.prog 3 As (.d true (.bool true)):=by
  intro As h
  match As,h with
  | [_,_,_],⟨⟨t0,rfl⟩,⟨t1,rfl⟩,⟨t2,rfl⟩,_⟩ => exact law_CertGood t0 t1 t2
theorem tab_of {W : World} (hL : laidMetH Tryz.prog Rows.fnExactCertGoodRow.laid W) : Lib.TabIs Tryz.prog W "internal/strconv.uint64pow10" .u64 Lib.pow10Tab := by
  rw [MakeChecks.laidMetH_plain _ _ _ (by kernel_rfl)] at hL
  have h1 : laidMet Tryz.prog [("math/bits.deBruijn32tab", Rows.laid_math_bits_deBruijn32tab), ("math/bits.deBruijn64tab", Rows.laid_math_bits_deBruijn64tab), ("internal/strconv.uint64pow10", Rows.laid_internal_strconv_uint64pow10), ("unicode/utf8.acceptRanges", Rows.laid_unicode_utf8_acceptRanges), ("strconv.ErrRange", Rows.laid_strconv_ErrRange), ("strconv.ErrSyntax", Rows.laid_strconv_ErrSyntax), ("unicode/utf8.first", Rows.laid_unicode_utf8_first)] W := hL
  have h3:=laidMet.tail (laidMet.tail (h1))
  change laidMet Tryz.prog [("internal/strconv.uint64pow10", Rows.laid_internal_strconv_uint64pow10), ("unicode/utf8.acceptRanges", Rows.laid_unicode_utf8_acceptRanges), ("strconv.ErrRange", Rows.laid_strconv_ErrRange), ("strconv.ErrSyntax", Rows.laid_strconv_ErrSyntax), ("unicode/utf8.first", Rows.laid_unicode_utf8_first)] W at h3
  rw [show (Rows.laid_internal_strconv_uint64pow10 : DataW Unit) = Lib.tabData .u64 Lib.pow10Tab by kernel_rfl] at h3
  exact Lib.tabIs_of_head (g:=2) (t:=126) (e:=102) (n:=20) (by kernel_rfl) (by kernel_rfl) (by kernel_rfl) (by kernel_rfl) (by kernel_rfl) (by kernel_rfl) h3
theorem syn_of {W : World} (hL : laidMetH Tryz.prog Rows.fnExactCertGoodRow.laid W) : ∃ t v,W.cell? ⟨0,0,none⟩ = some (.iface t v):=by
  rw [MakeChecks.laidMetH_plain _ _ _ (by kernel_rfl)] at hL
  have h1 : laidMet Tryz.prog [("math/bits.deBruijn32tab", Rows.laid_math_bits_deBruijn32tab), ("math/bits.deBruijn64tab", Rows.laid_math_bits_deBruijn64tab), ("internal/strconv.uint64pow10", Rows.laid_internal_strconv_uint64pow10), ("unicode/utf8.acceptRanges", Rows.laid_unicode_utf8_acceptRanges), ("strconv.ErrRange", Rows.laid_strconv_ErrRange), ("strconv.ErrSyntax", Rows.laid_strconv_ErrSyntax), ("unicode/utf8.first", Rows.laid_unicode_utf8_first)] W := hL
  have h3:=laidMet.tail (laidMet.tail (laidMet.tail (laidMet.tail (laidMet.tail (h1)))))
  change laidMet Tryz.prog [("strconv.ErrSyntax", Rows.laid_strconv_ErrSyntax), ("unicode/utf8.first", Rows.laid_unicode_utf8_first)] W at h3
  have hg : Tryz.prog.globalNamed "strconv.ErrSyntax" = some 0 := by kernel_rfl
  have hrow : ∀ u, Tryz.prog.typeName? 3 u = some "*errors.errorString" → u = 116 := fun u h =>
    typeName_ptr_named (nm := "errors.errorString") (by rw [show "*" ++ "errors.errorString" = "*errors.errorString" by decide]; kernel_rfl) (by kernel_rfl) (by decide) u (by rw [show "*" ++ "errors.errorString" = "*errors.errorString" by decide]; exact h)
  obtain ⟨a,s,hv,_,_,_⟩:=laid_sentinel (te:=118) (ms:=match Tryz.prog.underlying 61 with|some (.interface m) => m|_ => #[]) (f:=match Tryz.prog.underlying 118 with|some (.struct fs) => fs[0]!|_ => default) (ts:=9) (ti:=61) h3 hg (by kernel_rfl) (by kernel_rfl) hrow (by kernel_rfl) (by kernel_rfl) (by kernel_rfl) (by kernel_rfl) (by kernel_rfl) (by kernel_rfl) (by kernel_rfl)
  exact ⟨116,.pointer (some a),by simpa using World.var?_cell hg hv 0⟩
theorem ran_of {W : World} (hL : laidMetH Tryz.prog Rows.fnExactCertGoodRow.laid W) : ∃ t v,W.cell? ⟨1,0,none⟩ = some (.iface t v):=by
  rw [MakeChecks.laidMetH_plain _ _ _ (by kernel_rfl)] at hL
  have h1 : laidMet Tryz.prog [("math/bits.deBruijn32tab", Rows.laid_math_bits_deBruijn32tab), ("math/bits.deBruijn64tab", Rows.laid_math_bits_deBruijn64tab), ("internal/strconv.uint64pow10", Rows.laid_internal_strconv_uint64pow10), ("unicode/utf8.acceptRanges", Rows.laid_unicode_utf8_acceptRanges), ("strconv.ErrRange", Rows.laid_strconv_ErrRange), ("strconv.ErrSyntax", Rows.laid_strconv_ErrSyntax), ("unicode/utf8.first", Rows.laid_unicode_utf8_first)] W := hL
  have h3:=laidMet.tail (laidMet.tail (laidMet.tail (laidMet.tail (h1))))
  change laidMet Tryz.prog [("strconv.ErrRange", Rows.laid_strconv_ErrRange), ("strconv.ErrSyntax", Rows.laid_strconv_ErrSyntax), ("unicode/utf8.first", Rows.laid_unicode_utf8_first)] W at h3
  have hg : Tryz.prog.globalNamed "strconv.ErrRange" = some 1 := by kernel_rfl
  have hrow : ∀ u, Tryz.prog.typeName? 3 u = some "*errors.errorString" → u = 116 := fun u h =>
    typeName_ptr_named (nm := "errors.errorString") (by rw [show "*" ++ "errors.errorString" = "*errors.errorString" by decide]; kernel_rfl) (by kernel_rfl) (by decide) u (by rw [show "*" ++ "errors.errorString" = "*errors.errorString" by decide]; exact h)
  obtain ⟨a,s,hv,_,_,_⟩:=laid_sentinel (te:=118) (ms:=match Tryz.prog.underlying 61 with|some (.interface m) => m|_ => #[]) (f:=match Tryz.prog.underlying 118 with|some (.struct fs) => fs[0]!|_ => default) (ts:=9) (ti:=61) h3 hg (by kernel_rfl) (by kernel_rfl) hrow (by kernel_rfl) (by kernel_rfl) (by kernel_rfl) (by kernel_rfl) (by kernel_rfl) (by kernel_rfl) (by kernel_rfl)
  exact ⟨116,.pointer (some a),by simpa using World.var?_cell hg hv 0⟩
theorem lifted (os : Os) (started : os.Started) (H : Type) (enc : TypeId × Value → H) :
    ReturnsInHanded {} Tryz.checked os 3 .any (fun w args => (Rows.fnExactCertGoodSpec.pre enc Tryz.prog Tryz.f3 Rows.fnExactCertGoodRow.domain false w args ∧ laidMetH Tryz.prog Rows.fnExactCertGoodRow.laid w) ∧ sizedMet enc Tryz.prog Tryz.f3 (OpenSpec.ofChange Rows.fnExactCertGoodSpec) false w args)
      (Rows.fnExactCertGoodSpec.post enc Tryz.prog Tryz.f3 false true false false):=by
  refine wrap_shaped (C:=Tryz.checked) (X:=fun w _ => laidMetH Tryz.prog Rows.fnExactCertGoodRow.laid w) (fun _ _ _ hh h => h.of_heap hh) own started (by kernel_rfl) Tryz.func3
    (ChangeSpec.witness_shaped (enc:=enc) (C:=Tryz.checked) (os:=os) (X:=fun w _ => laidMetH Tryz.prog Rows.fnExactCertGoodRow.laid w) false (World.laidAll Tryz.prog os Rows.fnExactCertGoodRow.laid) #[.agg #[.int .i64 0,.int .i64 0,.string ⟨#[]⟩,.slice none 0 0],.string ⟨#[]⟩,.int .i64 0] 8 (World.laidAll_os _ _ _)
      (World.shaped_of_ZipB (by kernel_rfl) (by kernel_rfl)) (by kernel_rfl) (by kernel_rfl) (by kernel_rfl)
      (by rw [MakeChecks.laidMetH_plain _ _ _ (by kernel_rfl)];exact laidMet_laidAll _ (by kernel_rfl) (by kernel_rfl))) ?_
  intro W base args ds gs before hval hW hsz hL hsh
  refine law_post (P:=Tryz.prog) (fn:=Tryz.f3) laid (args_of enc) all_of rfl (t:=4) (by kernel_rfl) (by kernel_rfl) ?_ ?_ ⟨low_of_shaped hsh _ (by kernel_rfl),W,⟨hsh,tab_of hL,syn_of hL,ran_of hL⟩,fun b _ => rfl⟩ hval hW hsz
  · intro ds h
    rw [pars] at h
    match ds,h with
    | [d0,d1,d2],_ => rfl
  · rw [pars]
    intro t ht
    simp only [List.mem_cons,List.not_mem_nil,or_false] at ht
    rcases ht with rfl|rfl|rfl <;> exact ⟨by kernel_rfl,of_decide_eq_true (by kernel_rfl)⟩
theorem over : Rows.fnExactCertGoodRow.holds Tryz.pinned (OpenSpec.ofChange Rows.fnExactCertGoodSpec) :=
  OpenClaim.holds_of_wide 3 Tryz.f3 rfl rfl rfl rfl rfl rfl rfl ⟨rfl,rfl,rfl,rfl,rfl⟩ rfl rfl rfl rfl rfl (by kernel_rfl) Tryz.func3 (by kernel_rfl)
    (of_decide_eq_true (by kernel_rfl)) (by unfold Func.isWrapper;first|(rw [if_pos (by decide +kernel)];kernel_rfl)|(rw [if_neg (by decide +kernel)];exact ⟨rfl,rfl⟩))
    (fun os started H enc _ => lifted os started H enc)
theorem card : Rows.FnExactCertGoodCardSaid :=
  Claim7.holds_tied_plain_at .later [] [.data, .data, .data, .data, .sentinel, .sentinel, .pinned] true (true, "d121486443640fe8100f3950b22133e01c353db6427bc4a5cf9a55f2d151fbd3") true over (fun _ h => by cases h) (by kernel_rfl) (fun _ h => by cases h) fnExactCertGood_row_tie rfl ⟨rfl, rfl⟩ (by kernel_rfl) rfl
    (fun f fn hf hfn => by
      obtain rfl : f = 3 := Option.some.inj ((show Tryz.prog.funcNamed "loop.example/g00328/laws.FnExactCertGood" = some 3 by kernel_rfl).symm.trans hf) |>.symm
      obtain rfl : fn = Tryz.f3:=(Option.some.inj (Tryz.func3.symm.trans hfn)).symm
      exact ⟨by kernel_rfl,fun j t ht => by
        have hm : t ∈ Tryz.f3.params.toList:=by simpa using Array.mem_of_getElem? ht
        rw [pars] at hm
        have hall : ([24,9,3].all fun u => !Tryz.prog.wantsStandIn u) = true:=by kernel_rfl
        exact (show Tryz.prog.wantsStandIn t = false by simpa using List.all_eq_true.1 hall t hm)⟩)
    (by kernel_rfl)
end Go.Proofs.YtlddcimpdkcgeaaGreatDoor.RowCertGood
namespace Go.Proofs.YtlddcimpdkcgeaaGreatDoor
theorem holdsCertGood : Rows.FnExactCertGoodCardSaid:=RowCertGood.card
#print axioms holdsCertGood
end Go.Proofs.YtlddcimpdkcgeaaGreatDoor
