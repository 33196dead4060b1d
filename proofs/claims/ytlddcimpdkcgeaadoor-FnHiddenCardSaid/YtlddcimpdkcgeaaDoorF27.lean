/- What can be taken apart: facts of the rounds. -/
import Derived.Test.YtlddcimpdkcgeaaDoorF26
set_option linter.unusedVariables false
set_option linter.unusedSimpArgs false
set_option maxRecDepth 20000
set_option maxHeartbeats 8000000
namespace Go.Proofs.YtlddcimpdkcgeaaDoor
open Go Go.RowKit Sym
/-- Right, of at most 200, and not too long. -/
def gd (t : Term) : Prop:=fineT t ∧ t.cnt ≤ 8388608
theorem gd_kid {t x : Term} (h : gd t) (hx : x ∈ t.kids) : gd x:=⟨fine_kid h.1 hx,by have:=cnt_mem hx;have:=h.2;omega⟩
theorem gd_of {t : Term} (ho : okT t = true) (hc : t.cnt ≤ 8388608) : gd t:=⟨⟨ok_right ho,ok_nods ho (by have:=nods_le t;omega)⟩,hc⟩
def gdL (l : List Term) : Prop:=∀ x,x ∈ l → gd x
theorem gd_apart {l m : List Term} {t x : Term} (ht : gd t) (hx : x ∈ apartT l t) : gd x:=gd_kid ht (apartT_mem hx)
def firstN (ts : List Term) (i : Nat) : List Term:=addsT [] ((ts.take i).filter okT)
theorem addsT_app2 (l : List Term) (xs ys : List Term) : addsT l (xs ++ ys) = addsT (addsT l xs) ys:=by simp [addsT,List.foldl_append]
theorem firstN_zero (ts : List Term) : firstN ts 0 = []:=rfl
theorem firstN_succ (ts : List Term) (i : Nat) (h : i < ts.length) : firstN ts (i + 1) = bif okT ts[i] then addT (firstN ts i) ts[i] else firstN ts i:=by
  unfold firstN
  rw [List.take_succ_eq_append_getElem h,List.filter_append,addsT_app2]
  cases ho : okT ts[i] with
  | true => simp [ho,addsT]
  | false => simp [ho,addsT]
theorem firstN_end (ts : List Term) : firstN ts ts.length = firstT ts:=by unfold firstN firstT;rw [List.take_length]
theorem firstN_len (ts : List Term) (i : Nat) : (firstN ts i).length ≤ 300:=(addsT_len _ _).2 (by simp)
theorem firstN_gd {ts : List Term} (h : ∀ t,t ∈ ts → t.cnt ≤ 8388608) (i : Nat) : gdL (firstN ts i):=by
  intro x hx
  rcases addsT_mem hx with hx|hx
  · cases hx
  · rw [List.mem_filter] at hx
    exact gd_of hx.2 (h x (List.mem_of_mem_take hx.1))
theorem parts_nil {ts : List Term} (h : firstT ts = []) : partsT ts = []:=by
  unfold partsT
  rw [h]
  rfl
/-- Rounds that are still to come: what comes out, and that there are enough of them. -/
def Rnd (ts l : List Term) (k : Nat) : Prop:=roundsN k l = partsT ts ∧ 301 ≤ l.length + k ∧ l.length ≤ 300 ∧ gdL l
theorem rnd_first {ts : List Term} (h : ∀ t,t ∈ ts → t.cnt ≤ 8388608) : Rnd ts (firstT ts) 301:=⟨rfl,by omega,firstT_len ts,by rw [← firstN_end];exact firstN_gd h _⟩
theorem pass_gd {l : List Term} (h : gdL l) (k i : Nat) : gdL (passN k l i):=passN_all (fun l _ t ht x hx => gd_apart (l:=l) (m:=l) ht hx) k l i h
theorem rnd_pos {ts l : List Term} {k : Nat} (h : Rnd ts l k) : ∃ k',k = k' + 1:=⟨k - 1,by obtain ⟨_,h1,h2,_⟩:=h;omega⟩
theorem rnd_end {ts l : List Term} {k : Nat} (h : Rnd ts l (k + 1)) (he : (passN 301 l 0).length = l.length) : passN 301 l 0 = partsT ts:=by
  have:=h.1
  unfold roundsN at this
  rw [decide_eq_true he] at this
  exact this
theorem rnd_next {ts l : List Term} {k : Nat} (h : Rnd ts l (k + 1)) (he : (passN 301 l 0).length ≠ l.length) : Rnd ts (passN 301 l 0) k:=by
  obtain ⟨h0,h1,h2,h3⟩:=h
  have hp:=passN_len 301 l 0
  unfold roundsN at h0
  rw [decide_eq_false he] at h0
  exact ⟨h0,by omega,hp.2 h2,pass_gd h3 301 0⟩
/-- Within a pass. -/
def Pas (l0 l : List Term) (k i : Nat) : Prop:=passN k l i = passN 301 l0 0 ∧ k + i = 301 ∧ l0.length ≤ l.length ∧ l.length ≤ 300 ∧ gdL l
theorem pas_first {l : List Term} (h : l.length ≤ 300) (hg : gdL l) : Pas l l 301 0:=⟨rfl,rfl,Nat.le_refl _,h,hg⟩
theorem pas_end {l0 l : List Term} {k i : Nat} (h : Pas l0 l k i) (hi : l.length ≤ i) : l = passN 301 l0 0:=by
  rw [← h.1]
  cases k with
  | zero => rfl
  | succ k => unfold passN;rw [List.getElem?_eq_none hi]
theorem pas_pos {l0 l : List Term} {k i : Nat} (h : Pas l0 l k i) (hi : i < l.length) : ∃ k',k = k' + 1:=⟨k - 1,by obtain ⟨_,h1,_,h2,_⟩:=h;omega⟩
theorem pas_next {l0 l : List Term} {k i : Nat} (h : Pas l0 l (k + 1) i) (hi : i < l.length) : Pas l0 (addsT l (apartT l l[i])) k (i + 1):=by
  obtain ⟨h0,h1,h2,h3,h4⟩:=h
  have hl:=addsT_len (apartT l l[i]) l
  refine ⟨?_,by omega,by omega,hl.2 h3,fun x hx => ?_⟩
  · rw [← h0]
    conv => rhs;unfold passN
    rw [List.getElem?_eq_getElem hi]
  · rcases addsT_mem hx with hx|hx
    · exact h4 x hx
    · exact gd_apart (l:=l) (m:=l) (h4 _ (List.getElem_mem hi)) hx
/-- Within what is taken apart of one. -/
def Adq (l0 l1 l xs : List Term) (j : Nat) : Prop:=j ≤ xs.length ∧ addsT l (xs.drop j) = addsT l1 xs ∧ l0.length ≤ l.length ∧ l.length ≤ 300 ∧ (∀ x,x ∈ xs → gd x)
theorem adq_first {l0 l xs : List Term} (h : l0.length ≤ l.length) (h3 : l.length ≤ 300) (hx : ∀ x,x ∈ xs → gd x) : Adq l0 l l xs 0:=⟨Nat.zero_le _,by rw [List.drop_zero],h,h3,hx⟩
theorem adq_end {l0 l1 l xs : List Term} {j : Nat} (h : Adq l0 l1 l xs j) (hj : xs.length ≤ j) : l = addsT l1 xs:=by
  rw [← h.2.1,List.drop_of_length_le hj];rfl
theorem adq_next {l0 l1 l xs : List Term} {j : Nat} (h : Adq l0 l1 l xs j) (hj : j < xs.length) : Adq l0 l1 (addT l xs[j]) xs (j + 1):=by
  obtain ⟨h0,h1,h2,h3,h4⟩:=h
  have hl:=addT_len l xs[j]
  refine ⟨hj,?_,by omega,hl.2.2 h3,h4⟩
  rw [← h1,List.drop_eq_getElem_cons hj]
  rfl
def gr (l0 l : List Term) : Bool:=decide (l.length ≠ l0.length)
theorem gr_self (l : List Term) : gr l l = false:=decide_eq_false (by simp)
theorem gr_add {l0 l : List Term} {t : Term} (h : l0.length ≤ l.length) : gr l0 (addT l t) = (bif newB l t then true else gr l0 l):=by
  cases hn : newB l t with
  | true =>
    rw [addT_new hn]
    exact decide_eq_true (by simp;omega)
  | false => rw [addT_no hn];rfl
end Go.Proofs.YtlddcimpdkcgeaaDoor
