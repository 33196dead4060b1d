/- Policies, as data. -/
import Derived.Test.YtockalkgjoaicaaT1
set_option linter.unusedVariables false
set_option linter.unusedSimpArgs false
namespace Go.Proofs.Ytockalkgjoaicaa
open Go.RowKit Sym

/-- A row of texts. -/
def encStr (ss : List ByteArray) : List (List D):=ss.map fun s => [.str s]
theorem encStr_length (ss : List ByteArray) : (encStr ss).length = ss.length:=by simp [encStr]
theorem encStr_getD (ss : List ByteArray) (k : Nat) (s : ByteArray) (h : ss[k]? = some s) : (encStr ss).getD k [] = [.str s]:=by simp [encStr,List.getD,h]

theorem encStr_ok : ∀ {ss : List ByteArray},D.OkLL (encStr ss) → ∀ s,s ∈ ss → s.size ≤ 4611686018427387904
  | [],_,s,h => by cases h
  | x :: ss,h,s,hm => by
    simp only [encStr,List.map_cons,D.OkLL,D.OkL,D.Ok,and_true] at h
    rcases List.mem_cons.1 hm with rfl|hm
    · exact h.1
    · exact encStr_ok (ss:=ss) h.2 s hm

structure Policy where
  dom : ByteArray
  mode : Int
  mx : List ByteArray
  til : Int
def Policy.enc (p : Policy) : List D:=[.str p.dom,.int .i64 p.mode,.sl (encStr p.mx),.int .i64 p.til]
@[reducible] def Policy.v (p : Policy) : A:=.agg [.d false (.str p.dom),.d false (.int .i64 p.mode),.d false (.sl (encStr p.mx)),.d false (.int .i64 p.til)]
theorem Policy.v_eq (p : Policy) : p.v = .agg [.d false (.str p.dom),.d false (.int .i64 p.mode),.d false (.sl (encStr p.mx)),.d false (.int .i64 p.til)]:=rfl
theorem Policy.enc_eq (p : Policy) : p.enc = [.str p.dom,.int .i64 p.mode,.sl (encStr p.mx),.int .i64 p.til]:=rfl
def encPs (ps : List Policy) : List (List D):=ps.map Policy.enc
theorem encPs_length (ps : List Policy) : (encPs ps).length = ps.length:=by simp [encPs]
theorem encPs_getD (ps : List Policy) (k : Nat) (p : Policy) (h : ps[k]? = some p) : (encPs ps).getD k [] = p.enc:=by simp [encPs,List.getD,h]

/-- A row that is being filled. -/
def fillG {α : Type} (f : α → List D) (xs : List α) (i : Nat) (z : List D) : List (List D):=(xs.take i).map f ++ List.replicate (xs.length - i) z
theorem fillG_zero {α : Type} (f : α → List D) (xs : List α) (z : List D) : fillG f xs 0 z = List.replicate xs.length z:=by simp [fillG]
theorem fillG_len {α : Type} (f : α → List D) (xs : List α) (i : Nat) (z : List D) (h : i ≤ xs.length) : (fillG f xs i z).length = xs.length:=by simp [fillG,Nat.min_eq_left h];omega
theorem fillG_set {α : Type} (f : α → List D) (xs : List α) (i : Nat) (z : List D) (x : α) (h : xs[i]? = some x) : (fillG f xs i z).set i (f x) = fillG f xs (i + 1) z:=by
  obtain ⟨hl,rfl⟩:=List.getElem?_eq_some_iff.1 h
  have h1 : ((xs.take i).map f).length = i:=by simp;omega
  unfold fillG
  rw [List.set_append,if_neg (by omega),h1,Nat.sub_self,List.take_succ_eq_append_getElem hl,List.map_append]
  have : xs.length - i = (xs.length - (i + 1)) + 1:=by omega
  rw [this,List.replicate_succ,List.set_cons_zero]
  simp
theorem fillG_end {α : Type} (f : α → List D) (xs : List α) (z : List D) : fillG f xs xs.length z = xs.map f:=by simp [fillG]

/-! ### How many letters and places -/
def cntStr : List ByteArray → Nat
  | [] => 0
  | s :: ss => s.size + cntStr ss
theorem cntStr_drop (ss : List ByteArray) (i : Nat) (h : i < ss.length) : cntStr (ss.drop i) = ss[i].size + cntStr (ss.drop (i + 1)):=by
  rw [List.drop_eq_getElem_cons h,cntStr]
def Policy.cnt (p : Policy) : Nat:=p.dom.size + (p.mx.length + cntStr p.mx)
def cntPs : List Policy → Nat
  | [] => 0
  | p :: ps => p.cnt + cntPs ps
theorem cntPs_drop (ps : List Policy) (i : Nat) (h : i < ps.length) : cntPs (ps.drop i) = ps[i].cnt + cntPs (ps.drop (i + 1)):=by
  rw [List.drop_eq_getElem_cons h,cntPs]
theorem cntPs_mem : ∀ {ps : List Policy} {p : Policy},p ∈ ps → p.cnt ≤ cntPs ps
  | [],s,h => by cases h
  | x :: ss,s,h => by
    rcases List.mem_cons.1 h with rfl|h
    · simp [cntPs]
    · have:=cntPs_mem h;simp [cntPs];omega

/-! ### Side by side -/
def eqStr : List ByteArray → List ByteArray → Bool
  | [],[] => true
  | t :: ts,u :: us => beqS t u && eqStr ts us
  | [],_ :: _ => false
  | _ :: _,[] => false
theorem eqStr_len : ∀ {ts us : List ByteArray},ts.length ≠ us.length → eqStr ts us = false
  | [],[],h => by simp at h
  | t :: ts,u :: us,h => by simp [eqStr,eqStr_len (ts:=ts) (us:=us) (by simpa using h)]
  | [],_ :: _,_ => by simp [eqStr]
  | _ :: _,[],_ => by simp [eqStr]
theorem eqStr_refl : ∀ ts : List ByteArray,eqStr ts ts = true
  | [] => by simp [eqStr]
  | t :: ts => by rw [eqStr,eqStr_refl ts,beqS_refl];rfl
def eqP (p q : Policy) : Bool:=beqS p.dom q.dom && (decide (p.mode = q.mode) && (eqStr p.mx q.mx && decide (p.til = q.til)))
theorem eqP_refl (p : Policy) : eqP p p = true:=by simp [eqP,beqS_refl,eqStr_refl]
def eqPs : List Policy → List Policy → Bool
  | [],[] => true
  | t :: ts,u :: us => eqP t u && eqPs ts us
  | [],_ :: _ => false
  | _ :: _,[] => false
theorem eqPs_len : ∀ {ts us : List Policy},ts.length ≠ us.length → eqPs ts us = false
  | [],[],h => by simp at h
  | t :: ts,u :: us,h => by simp [eqPs,eqPs_len (ts:=ts) (us:=us) (by simpa using h)]
  | [],_ :: _,_ => by simp [eqPs]
  | _ :: _,[],_ => by simp [eqPs]
theorem eqPs_refl : ∀ ts : List Policy,eqPs ts ts = true
  | [] => by simp [eqPs]
  | t :: ts => by rw [eqPs,eqPs_refl ts,eqP_refl];rfl
end Go.Proofs.Ytockalkgjoaicaa
