/- The row of the law: what it says, from the contract. -/
import Derived.Test.YtockalkgjoaicaaRows
import Derived.Test.YtockalkgjoaicaaT4
import Derived.Test.YtockalkgjoaicaaLCacheDrop
import Derived.OpenShut
import Derived.SizedLaws
set_option linter.unusedVariables false
set_option maxRecDepth 100000
namespace Go.Proofs.Ytockalkgjoaicaa.RowCacheDrop
open Go.RowKit Sym Go Go.ChangeShapes Go.WideShapes Go.ChangeAt

theorem own : ownKnob Try.prog.godebug = none:=by kernel_rfl
theorem laid : laidOutB Try.prog = true:=by kernel_rfl
theorem pars : Try.f3.params.toList = [22,3]:=by kernel_rfl
theorem args_of {H : Type} (enc : TypeId × Value → H) : ArgsAt enc Try.prog Try.f3.params.toList [fun x => ∃ ts : List Policy,x = .d false (.sl (encPs ts)),fun x => ∃ m,x = .d false (.int .i64 m)]:=by
  rw [pars]
  exact ⟨arg_policies enc,arg_int (enc:=enc) (k:=.i64) (by kernel_rfl),trivial⟩
theorem all_of : ∀ As,AllQ [fun x => ∃ ts : List Policy,x = .d false (.sl (encPs ts)),fun x => ∃ m,x = .d false (.int .i64 m)] As → Ct Try.prog 3 As (.d true (.bool true)):=by
  intro As h
  match As,h with
  | [_,_],⟨⟨t0,rfl⟩,⟨t1,rfl⟩,_⟩ => exact law_CacheDrop t0 t1
theorem lifted (os : Os) (started : os.Started) (H : Type) (enc : TypeId × Value → H) :
    ReturnsInHanded {} Try.checked os 3 .any (Rows.fnExactCacheDropSpec.pre6 enc Try.prog Try.f3 Rows.fnExactCacheDropRow.domain false) (Rows.fnExactCacheDropSpec.post enc Try.prog Try.f3 false true false false):=by
  refine returnsInHanded_of_change_sized (C:=Try.checked) own started (by kernel_rfl) Try.func3
    (ChangeSpec.witness6 (enc:=enc) (C:=Try.checked) false ⟨#[],#[.slice none 0 0,.int .i64 0],[]⟩ 8 (by kernel_rfl) (by kernel_rfl) (by kernel_rfl) (by kernel_rfl)) ?_
  intro W base args ds gs before hval hW _ hsz _
  refine law_post (P:=Try.prog) (fn:=Try.f3) laid (args_of enc) all_of rfl (t:=4) (by kernel_rfl) (by kernel_rfl) ?_ ?_ ⟨Nat.zero_le _,W,trivial,fun b hb => absurd hb (Nat.not_lt_zero b)⟩ hval hW hsz
  · intro ds h
    rw [pars] at h
    match ds,h with
    | [d0,d1],_ => rfl
  · rw [pars]
    intro t ht
    simp only [List.mem_cons,List.not_mem_nil,or_false] at ht
    rcases ht with rfl|rfl <;> exact ⟨by kernel_rfl,of_decide_eq_true (by kernel_rfl)⟩
theorem over : Rows.fnExactCacheDropRow.holds Try.pinned (OpenSpec.ofChange Rows.fnExactCacheDropSpec) :=
  OpenClaim.holds_of_wide 3 Try.f3 rfl rfl rfl rfl rfl rfl rfl ⟨rfl,rfl,rfl,rfl,rfl⟩ rfl rfl rfl rfl rfl (by kernel_rfl) Try.func3 (by kernel_rfl)
    (of_decide_eq_true (by kernel_rfl)) (by unfold Func.isWrapper;first|(rw [if_pos (by decide +kernel)];kernel_rfl)|(rw [if_neg (by decide +kernel)];exact ⟨rfl,rfl⟩))
    (fun os started H enc _ => lifted os started H enc)
end Go.Proofs.Ytockalkgjoaicaa.RowCacheDrop
namespace Go.Proofs.Ytockalkgjoaicaa
theorem holdsCacheDrop : Rows.FnExactCacheDropSaid:=RowCacheDrop.over
#print axioms holdsCacheDrop
end Go.Proofs.Ytockalkgjoaicaa
