/- Terms, as data. -/
import Derived.Test.YtlddcimpdkcgeaaGreatDoorS12
set_option linter.unusedVariables false
set_option linter.unusedSimpArgs false
namespace Go.Proofs.YtlddcimpdkcgeaaGreatDoor
open Go.RowKit Sym
theorem w64 {n : Int} (a : -9223372036854775808 ≤ n) (b : n ≤ 9223372036854775807) : wrap64 n = n:=by unfold wrap64;omega
inductive Term where
  | mk (op n : Int) (s : ByteArray) (kids : List Term)
mutual
def Term.enc : Term → List D
  | .mk op n s kids => [.int .i64 op,.int .i64 n,.str s,.sl (encs kids)]
def encs : List Term → List (List D)
  | [] => []
  | t :: ts => t.enc :: encs ts
end
def Term.op : Term → Int|.mk op _ _ _ => op
def Term.n : Term → Int|.mk _ n _ _ => n
def Term.s : Term → ByteArray|.mk _ _ s _ => s
def Term.kids : Term → List Term|.mk _ _ _ kids => kids
@[reducible] def Term.v (t : Term) : A:=.agg [.d false (.int .i64 t.op),.d false (.int .i64 t.n),.d false (.str t.s),.d false (.sl (encs t.kids))]
@[reducible] def Term.w (t : Term) : A:=.agg [.d false (.int .i64 t.op),.d false (.int .i64 t.n),.d false (.str t.s),.d true (.sl (encs t.kids))]
theorem Term.w_eq (t : Term) : t.w = .agg [.d false (.int .i64 t.op),.d false (.int .i64 t.n),.d false (.str t.s),.d true (.sl (encs t.kids))]:=rfl
theorem Term.w_v {P : Program} {f : FuncId} {As : List A} {t : Term} (h : Ct P f As t.w) : Ct P f As t.v:=h.weak (by simp [A.Le,A.LeL])
theorem Term.enc_eq (t : Term) : t.enc = [.int .i64 t.op,.int .i64 t.n,.str t.s,.sl (encs t.kids)]:=by cases t;simp [Term.enc,Term.op,Term.n,Term.s,Term.kids]
theorem Term.v_eq (t : Term) : t.v = .agg [.d false (.int .i64 t.op),.d false (.int .i64 t.n),.d false (.str t.s),.d false (.sl (encs t.kids))]:=rfl
theorem encs_length : ∀ ts : List Term,(encs ts).length = ts.length
  | [] => rfl
  | t :: ts => by simp [encs,encs_length ts]
theorem encs_getD : ∀ (ts : List Term) (k : Nat) (t : Term),ts[k]? = some t → (encs ts).getD k [] = t.enc
  | [],k,t,h => by simp at h
  | x :: ts,0,t,h => by simp at h;subst h;simp [encs]
  | x :: ts,k + 1,t,h => by simp at h;simpa [encs] using encs_getD ts k t h
theorem enc_length (t : Term) : t.enc.length = 4:=by simp [Term.enc_eq]
theorem encs_each (ts : List Term) : ∀ l,l ∈ encs ts → l.length = 4:=by
  induction ts with
  | nil => simp [encs]
  | cons t ts ih =>
    intro l hl
    simp only [encs,List.mem_cons] at hl
    rcases hl with rfl|hl
    · exact enc_length t
    · exact ih l hl
def fillT (ts : List Term) (i : Nat) (z : List D) : List (List D):=encs (ts.take i) ++ List.replicate (ts.length - i) z
theorem fillT_zero (ts : List Term) (z : List D) : fillT ts 0 z = List.replicate ts.length z:=by simp [fillT,encs]
theorem fillT_len (ts : List Term) (i : Nat) (z : List D) (h : i ≤ ts.length) : (fillT ts i z).length = ts.length:=by simp [fillT,encs_length,Nat.min_eq_left h];omega
theorem encs_app : ∀ xs ys : List Term,encs (xs ++ ys) = encs xs ++ encs ys
  | [],_ => rfl
  | x :: xs,ys => by simp [encs,encs_app xs ys]
theorem fillT_set (ts : List Term) (i : Nat) (z : List D) (t : Term) (h : ts[i]? = some t) : (fillT ts i z).set i t.enc = fillT ts (i + 1) z:=by
  obtain ⟨hl,rfl⟩:=List.getElem?_eq_some_iff.1 h
  have h1 : (encs (ts.take i)).length = i:=by simp [encs_length];omega
  unfold fillT
  rw [List.set_append,if_neg (by omega),h1,Nat.sub_self,List.take_succ_eq_append_getElem hl,encs_app]
  have : ts.length - i = (ts.length - (i + 1)) + 1:=by omega
  rw [this,List.replicate_succ,List.set_cons_zero]
  simp [encs]
theorem fillT_end (ts : List Term) (z : List D) : fillT ts ts.length z = encs ts:=by simp [fillT]
mutual
def Term.Ok : Term → Prop
  | .mk op n s kids => IntKind.i64.min ≤ op ∧ op ≤ IntKind.i64.max ∧ IntKind.i64.min ≤ n ∧ n ≤ IntKind.i64.max ∧ s.size ≤ 4611686018427387904 ∧ kids.length ≤ 140737488355328 ∧ Term.OkL kids
def Term.OkL : List Term → Prop
  | [] => True
  | t :: ts => t.Ok ∧ Term.OkL ts
end
mutual
theorem Term.ok_of : ∀ t : Term,D.OkL t.enc → t.Ok
  | .mk op n s kids,h => by
    simp only [Term.enc,D.OkL,D.Ok,encs_length,and_true] at h
    simp only [Term.Ok]
    exact ⟨h.1.1,h.1.2,h.2.1.1,h.2.1.2,h.2.2.1,h.2.2.2.1,Term.okL_of kids h.2.2.2.2⟩
theorem Term.okL_of : ∀ ts : List Term,D.OkLL (encs ts) → Term.OkL ts
  | [],_ => by simp [Term.OkL]
  | t :: ts,h => by
    simp only [encs,D.OkLL] at h
    simp only [Term.OkL]
    exact ⟨Term.ok_of t h.1,Term.okL_of ts h.2⟩
end
theorem Term.v_ok {t : Term} (h : A.Ok t.v) : t.Ok:=by
  rw [Term.v_eq] at h
  refine Term.ok_of t ?_
  rw [Term.enc_eq]
  simp only [A.Ok,A.OkL,and_true] at h
  simp only [D.OkL,and_true]
  exact h
theorem Term.Ok.kids_len {t : Term} (h : t.Ok) : t.kids.length ≤ 140737488355328:=by cases t;simp only [Term.Ok] at h;exact h.2.2.2.2.2.1
def CapOk (caps : List A) : Prop:=A.LeL caps caps ∧ (∀ p,A.freeL p caps = true) ∧ A.argL caps = caps ∧ A.idsL caps = []
theorem capOk_nil : CapOk []:=⟨trivial,fun _ => rfl,rfl,rfl⟩
mutual
theorem Term.ind' {p : Term → Prop} (h : ∀ t : Term,(∀ u,u ∈ t.kids → p u) → p t) : ∀ t : Term,p t
  | .mk op n s kids => h _ (fun u hu => Term.indL h kids u hu)
theorem Term.indL {p : Term → Prop} (h : ∀ t : Term,(∀ u,u ∈ t.kids → p u) → p t) : ∀ ts : List Term,∀ u,u ∈ ts → p u
  | [],u,hu => by cases hu
  | t :: ts,u,hu => by
    rcases List.mem_cons.1 hu with e|hu
    · rw [e];exact Term.ind' h t
    · exact Term.indL h ts u hu
end
theorem Term.ind {p : Term → Prop} (h : ∀ t : Term,(∀ u,u ∈ t.kids → p u) → p t) (t : Term) : p t:=Term.ind' h t
mutual
def Term.cnt : Term → Nat
  | .mk _ _ s kids => s.size + (kids.length + cnts kids)
def cnts : List Term → Nat
  | [] => 0
  | t :: ts => t.cnt + cnts ts
end
theorem Term.cnt_eq (t : Term) : t.cnt = t.s.size + (t.kids.length + cnts t.kids):=by cases t;simp [Term.cnt,Term.s,Term.kids]
theorem cnts_mem : ∀ {ts : List Term} {u : Term},u ∈ ts → u.cnt ≤ cnts ts
  | [],u,hu => by cases hu
  | t :: ts,u,hu => by
    rcases List.mem_cons.1 hu with e|hu
    · subst e;simp [cnts]
    · have:=cnts_mem hu;simp [cnts];omega
theorem cnts_drop (ts : List Term) (i : Nat) (h : i < ts.length) : cnts (ts.drop i) = ts[i].cnt + cnts (ts.drop (i + 1)):=by
  rw [List.drop_eq_getElem_cons h,cnts]
def lft (k : Nat) (left : Int) : Int:=if (k : Int) ≤ left then left - k else -1
mutual
def eqT : Term → Term → Bool
  | .mk op n s kids,u => decide (op = u.op) && (decide (n = u.n) && (beqS s u.s && eqTs kids u.kids))
def eqTs : List Term → List Term → Bool
  | [],[] => true
  | t :: ts,u :: us => eqT t u && eqTs ts us
  | [],_ :: _ => false
  | _ :: _,[] => false
end
theorem eqT_eq (t u : Term) : eqT t u = (decide (t.op = u.op) && (decide (t.n = u.n) && (beqS t.s u.s && eqTs t.kids u.kids))):=by cases t;cases u;rw [eqT];rfl
theorem eqTs_len : ∀ {ts us : List Term},ts.length ≠ us.length → eqTs ts us = false
  | [],[],h => by simp at h
  | t :: ts,u :: us,h => by simp [eqTs,eqTs_len (ts:=ts) (us:=us) (by simpa using h)]
  | [],_ :: _,_ => by simp [eqTs]
  | _ :: _,[],_ => by simp [eqTs]
theorem beqS_refl (s : ByteArray) : beqS s s = true:=by simp [beqS]
mutual
theorem eqT_refl : ∀ t : Term,eqT t t = true
  | .mk op n s kids => by
    rw [eqT]
    simp only [Term.op,Term.n,Term.s,Term.kids,decide_true,beqS_refl,Bool.true_and]
    exact eqTs_refl kids
theorem eqTs_refl : ∀ ts : List Term,eqTs ts ts = true
  | [] => by simp [eqTs]
  | t :: ts => by rw [eqTs,eqT_refl t,eqTs_refl ts];rfl
end
mutual
def befT : Term → Term → Bool
  | .mk op n s kids,u => bif !decide (op = u.op) then decide (op < u.op) else bif !decide (n = u.n) then decide (n < u.n) else bif !beqS s u.s then ltS s u.s else bif !decide ((kids.length : Int) = u.kids.length) then decide ((kids.length : Int) < u.kids.length) else befs kids u.kids
def befs : List Term → List Term → Bool
  | t :: ts,u :: us => bif !eqT t u then befT t u else befs ts us
  | _,_ => false
end
theorem befT_eq (t u : Term) : befT t u = bif !decide (t.op = u.op) then decide (t.op < u.op) else bif !decide (t.n = u.n) then decide (t.n < u.n) else bif !beqS t.s u.s then ltS t.s u.s else bif !decide ((t.kids.length : Int) = u.kids.length) then decide ((t.kids.length : Int) < u.kids.length) else befs t.kids u.kids:=by
  cases t;cases u;rw [befT];rfl
mutual
def Term.size : Term → Int
  | .mk _ _ _ kids => sizes 1 kids
def sizes (k : Int) : List Term → Int
  | [] => k
  | t :: ts => sizes (wrap64 (k + t.size)) ts
end
theorem Term.size_eq (t : Term) : t.size = sizes 1 t.kids:=by cases t;simp [Term.size,Term.kids]
end Go.Proofs.YtlddcimpdkcgeaaGreatDoor
