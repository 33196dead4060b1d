/- Instructions: what they make of an abstract state is what the machine makes of its own. -/
import Derived.Test.YtlddcimpdkcgeaaDoorS4
import Derived.Laws.BytesString
import Derived.Laws.Slices
import Derived.Laws.MakeOwn
set_option linter.unusedVariables false
set_option linter.unusedSimpArgs false
namespace Go.Proofs.YtlddcimpdkcgeaaDoor.Sym
open Go.RowKit

section
variable {P : Program} {c : Cx} {σ : St} {β : List Value} {a : Act} {w w' : World}

theorem cellsOf_eq {t : TypeId} {i : TypeInfo} (h : P.info? t = some i) : P.cellsOf t = i.size:=by simp [Program.cellsOf,h]
theorem info_of_under {t : TypeId} {d : TypeDesc} (h : P.underlying t = some d) : ∃ i,P.info? t = some i:=by
  unfold Program.underlying at h
  cases hi : P.info? t with
  | none => rw [hi] at h;cases h
  | some i => exact ⟨i,rfl⟩

theorem addr_add (b o n : Nat) : (⟨b,o,none⟩ : Addr).add n = ⟨b,o + n,none⟩:=by
  unfold Addr.add
  split
  · rename_i h;subst h;rfl
  · rfl

/-! ### Operands -/
theorem ofVal1_sim {ok : Nat → Prop} {lo : Nat} (v : Value) : VSim w ok lo β (A.ofVal1 v) v:=by
  unfold A.ofVal1
  split
  · split
    · rename_i k n h
      exact ⟨[],.int k n [] [] [] h.1 h.2 .nil,List.nodup_nil,fun b hb => by cases hb⟩
    · simp [VSim]
  · rename_i b
    exact ⟨[],.bool b [] [] [] .nil,List.nodup_nil,fun b hb => by cases hb⟩
  · split
    · rename_i s h
      exact ⟨[],.str s [] [] [] h .nil,List.nodup_nil,fun b hb => by cases hb⟩
    · simp [VSim]
  · simp [VSim]
  · simp [VSim]
theorem ofValL_sim {ok : Nat → Prop} {lo : Nat} : ∀ vs : List Value,VSimL w ok lo β (vs.map A.ofVal1) vs
  | [] => by simp [VSimL]
  | v :: vs => by simp only [List.map_cons,VSimL];exact ⟨ofVal1_sim v,ofValL_sim vs⟩
theorem ofVal_sim {ok : Nat → Prop} {lo : Nat} (v : Value) : VSim w ok lo β (A.ofVal v) v:=by
  unfold A.ofVal
  split
  · rename_i cs
    simp only [VSim]
    exact ⟨cs.toList,by simp,ofValL_sim _⟩
  · exact ofVal1_sim _

theorem Sim.ev (S : Sim c σ β a w) (x : Operand) : VSim w (okOf c w σ.h β) c.lo β ((toX x).ev σ) (a.eval x):=by
  cases x with
  | tmp t => exact S.tmp t
  | const v => exact ofVal_sim v
  | global g => simp [toX,X.ev,VSim]
  | func f => simp only [toX,X.ev,VSim];exact ⟨[],rfl,by simp [VSimL]⟩

theorem VSim.peel {ok : Nat → Prop} {lo : Nat} {x : A} {v : Value} (h : VSim w ok lo β x v) (hg : peelG x = true) : VSim w ok lo β (peel x) v:=by
  cases x with
  | opt g x => simp only [VSim] at h;exact h.1 hg
  | _ => exact h

theorem vsim_int {ok : Nat → Prop} {lo : Nat} (k : IntKind) (n : Int) (h1 : k.min ≤ n) (h2 : n ≤ k.max) : VSim w ok lo β (.d true (.int k n)) (.int k n) :=
  ⟨[],.int k n [] [] [] h1 h2 .nil,List.nodup_nil,fun b hb => by cases hb⟩
theorem vsim_bool {ok : Nat → Prop} {lo : Nat} (b : Bool) : VSim w ok lo β (.d true (.bool b)) (.bool b) :=
  ⟨[],.bool b [] [] [] .nil,List.nodup_nil,fun b hb => by cases hb⟩
theorem vsim_str {ok : Nat → Prop} {lo : Nat} (s : ByteArray) (h : s.size ≤ 4611686018427387904) : VSim w ok lo β (.d true (.str s)) (.string s) :=
  ⟨[],.str s [] [] [] h .nil,List.nodup_nil,fun b hb => by cases hb⟩

theorem vint {ok : Nat → Prop} {lo : Nat} {o : Bool} {k : IntKind} {n : Int} {v : Value} (h : VSim w ok lo β (.d o (.int k n)) v) : v = .int k n ∧ k.min ≤ n ∧ n ≤ k.max:=by
  have:=h.read
  cases this
  exact ⟨rfl,by assumption,by assumption⟩
theorem vbool {ok : Nat → Prop} {lo : Nat} {o : Bool} {b : Bool} {v : Value} (h : VSim w ok lo β (.d o (.bool b)) v) : v = .bool b:=by
  have:=h.read
  cases this
  rfl
theorem vstr {ok : Nat → Prop} {lo : Nat} {o : Bool} {s : ByteArray} {v : Value} (h : VSim w ok lo β (.d o (.str s)) v) : v = .string s ∧ s.size ≤ 4611686018427387904:=by
  have:=h.read
  cases this
  exact ⟨rfl,by assumption⟩

theorem i64_min : IntKind.i64.min = -9223372036854775808:=by decide
theorem i64_max : IntKind.i64.max = 9223372036854775807:=by decide
theorem u8_min : IntKind.u8.min = 0:=by decide
theorem u8_max : IntKind.u8.max = 255:=by decide
theorem wrap64_range (n : Int) : IntKind.i64.min ≤ wrap64 n ∧ wrap64 n ≤ IntKind.i64.max:=by rw [i64_min,i64_max];unfold wrap64;omega
theorem wrap64_eq (n : Int) : IntKind.i64.wrap n = wrap64 n:=by rw [IntKind.wrap_i64];rfl
theorem wrap_range (k : IntKind) (n : Int) : k.min ≤ k.wrap n ∧ k.wrap n ≤ k.max:=by
  cases k <;> simp only [IntKind.wrap,IntKind.min,IntKind.max,IntKind.signed,IntKind.bits] <;> simp <;> (try split) <;> omega

end
end Go.Proofs.YtlddcimpdkcgeaaDoor.Sym
