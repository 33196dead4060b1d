/- Terms, as data. -/
import Derived.Test.YtockalkgjoaicaaS12
set_option linter.unusedVariables false
namespace Go.Proofs.Ytockalkgjoaicaa
open Go.RowKit Sym

theorem w64 {n : Int} (a : -9223372036854775808 ≤ n) (b : n ≤ 9223372036854775807) : wrap64 n = n:=by unfold wrap64;omega

inductive Term where
  | mk (op n : Int) (s : ByteArray) (kids : List Term)

mutual
def Term.enc : Term → List D
  | .mk op n s kids => [.int .i64 op,.int .i64 n,.str s,.sl (encs kids)]
def encs : List Term → List (List D)
  | [] => []
  | t :: ts => t.enc :: encs ts
end
def Term.op : Term → Int|.mk op _ _ _ => op
def Term.n : Term → Int|.mk _ n _ _ => n
def Term.s : Term → ByteArray|.mk _ _ s _ => s
def Term.kids : Term → List Term|.mk _ _ _ kids => kids
/-- A term as a value. -/
@[reducible] def Term.v (t : Term) : A:=.agg [.d false (.int .i64 t.op),.d false (.int .i64 t.n),.d false (.str t.s),.d false (.sl (encs t.kids))]
/-- A term that owns all it holds. -/
@[reducible] def Term.w (t : Term) : A:=.agg [.d false (.int .i64 t.op),.d false (.int .i64 t.n),.d false (.str t.s),.d true (.sl (encs t.kids))]
theorem Term.w_eq (t : Term) : t.w = .agg [.d false (.int .i64 t.op),.d false (.int .i64 t.n),.d false (.str t.s),.d true (.sl (encs t.kids))]:=rfl
theorem Term.enc_eq (t : Term) : t.enc = [.int .i64 t.op,.int .i64 t.n,.str t.s,.sl (encs t.kids)]:=by cases t;simp [Term.enc,Term.op,Term.n,Term.s,Term.kids]
theorem Term.v_eq (t : Term) : t.v = .agg [.d false (.int .i64 t.op),.d false (.int .i64 t.n),.d false (.str t.s),.d false (.sl (encs t.kids))]:=rfl
theorem encs_length : ∀ ts : List Term,(encs ts).length = ts.length
  | [] => rfl
  | t :: ts => by simp [encs,encs_length ts]
/-! ### What is known of a term that is read -/
mutual
def Term.Ok : Term → Prop
  | .mk op n s kids => IntKind.i64.min ≤ op ∧ op ≤ IntKind.i64.max ∧ IntKind.i64.min ≤ n ∧ n ≤ IntKind.i64.max ∧ s.size ≤ 4611686018427387904 ∧ kids.length ≤ 140737488355328 ∧ Term.OkL kids
def Term.OkL : List Term → Prop
  | [] => True
  | t :: ts => t.Ok ∧ Term.OkL ts
end
mutual
theorem Term.ok_of : ∀ t : Term,D.OkL t.enc → t.Ok
  | .mk op n s kids,h => by
    simp only [Term.enc,D.OkL,D.Ok,encs_length,and_true] at h
    simp only [Term.Ok]
    exact ⟨h.1.1,h.1.2,h.2.1.1,h.2.1.2,h.2.2.1,h.2.2.2.1,Term.okL_of kids h.2.2.2.2⟩
theorem Term.okL_of : ∀ ts : List Term,D.OkLL (encs ts) → Term.OkL ts
  | [],_ => by simp [Term.OkL]
  | t :: ts,h => by
    simp only [encs,D.OkLL] at h
    simp only [Term.OkL]
    exact ⟨Term.ok_of t h.1,Term.okL_of ts h.2⟩
end
/-! ### Induction -/
/-! ### How many letters and places -/
mutual
def Term.cnt : Term → Nat
  | .mk _ _ s kids => s.size + (kids.length + cnts kids)
def cnts : List Term → Nat
  | [] => 0
  | t :: ts => t.cnt + cnts ts
end
/-- What is left of a measure. -/
def lft (k : Nat) (left : Int) : Int:=if (k : Int) ≤ left then left - k else -1
/-! ### Side by side -/
theorem beqS_refl (s : ByteArray) : beqS s s = true:=by simp [beqS]
/-! ### Which comes first -/
/-! ### How many -/
mutual
def Term.size : Term → Int
  | .mk _ _ _ kids => sizes 1 kids
def sizes (k : Int) : List Term → Int
  | [] => k
  | t :: ts => sizes (wrap64 (k + t.size)) ts
end
end Go.Proofs.Ytockalkgjoaicaa
