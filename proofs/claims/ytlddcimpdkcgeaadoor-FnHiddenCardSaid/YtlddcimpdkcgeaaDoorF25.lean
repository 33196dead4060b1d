/- What is sealed by a secret stays unknown until the secret is: over lists alone. -/
import Derived.Test.YtlddcimpdkcgeaaDoorF24
import Derived.Test.YtlddcimpdkcgeaaDoorF23
set_option linter.unusedVariables false
set_option linter.unusedSimpArgs false
set_option maxRecDepth 20000
set_option maxHeartbeats 4000000
namespace Go.Proofs.YtlddcimpdkcgeaaDoor
open Go Go.RowKit Sym

mutual
/-- Whether x is within t. -/
def withinT (x : Term) : Term → Bool
  | .mk op n s kids => eqT (.mk op n s kids) x || withinL x kids
def withinL (x : Term) : List Term → Bool
  | [] => false
  | t :: ts => withinT x t || withinL x ts
end
theorem within_eq (x t : Term) : withinT x t = (eqT t x || withinL x t.kids):=by cases t;rw [withinT];rfl
theorem withinL_any (x : Term) : ∀ ts : List Term,withinL x ts = ts.any (withinT x)
  | [] => rfl
  | t :: ts => by rw [withinL,List.any_cons,withinL_any x ts]
theorem within_no {x t : Term} (h : withinT x t = false) : t ≠ x ∧ ∀ u,u ∈ t.kids → withinT x u = false:=by
  rw [within_eq,Bool.or_eq_false_iff] at h
  refine ⟨fun e => ?_,fun u hu => ?_⟩
  · rw [e,eqT_refl] at h;cases h.1
  · have:=h.2
    rw [withinL_any,List.any_eq_false] at this
    simpa using this u hu
theorem within_of {x t : Term} (h : t ≠ x) (hk : ∀ u,u ∈ t.kids → withinT x u = false) : withinT x t = false:=by
  rw [within_eq,Bool.or_eq_false_iff]
  refine ⟨?_,?_⟩
  · cases he : eqT t x with
    | false => rfl
    | true => exact absurd ((eqT_iff t x).1 he) h
  · rw [withinL_any,List.any_eq_false]
    intro u hu
    simp [hk u hu]

def atomT (n : Int) : Term:=.mk 1 n ⟨#[]⟩ []
def a0 : Term:=atomT 900
def a1 : Term:=atomT 901
def a2 : Term:=atomT 902
/-- Without the secrets. -/
def Clean (t : Term) : Prop:=withinT a0 t = false ∧ withinT a1 t = false ∧ withinT a2 t = false
theorem Clean.kid {t x : Term} (h : Clean t) (hx : x ∈ t.kids) : Clean x:=⟨(within_no h.1).2 x hx,(within_no h.2.1).2 x hx,(within_no h.2.2).2 x hx⟩
theorem Clean.pub {t : Term} (h : Clean t) : Clean (pubOf t):=by
  have hne : ∀ n,pubOf t ≠ atomT n:=fun n e => by simp [pubOf,atomT] at e
  exact ⟨within_of (hne _) (fun u hu => by simp [pubOf,Term.kids] at hu;subst hu;exact h.1),within_of (hne _) (fun u hu => by simp [pubOf,Term.kids] at hu;subst hu;exact h.2.1),within_of (hne _) (fun u hu => by simp [pubOf,Term.kids] at hu;subst hu;exact h.2.2)⟩
theorem dirty0 {t : Term} (h : withinT a0 t = true) : ¬ Clean t:=fun hc => by rw [hc.1] at h;cases h
theorem dirty1 {t : Term} (h : withinT a1 t = true) : ¬ Clean t:=fun hc => by rw [hc.2.1] at h;cases h
theorem dirty2 {t : Term} (h : withinT a2 t = true) : ¬ Clean t:=fun hc => by rw [hc.2.2] at h;cases h
theorem within_up {x t u : Term} (hu : u ∈ t.kids) (h : withinT x u = true) : withinT x t = true:=by
  rw [within_eq,withinL_any,Bool.or_eq_true,List.any_eq_true]
  exact .inr ⟨u,hu,h⟩
theorem within_self (t : Term) : withinT t t = true:=by rw [within_eq,eqT_refl];rfl

/-! ### The terms -/
def shT : Term:=.mk 5 0 ⟨#[]⟩ [a0,a2]
def txT (s : ByteArray) : Term:=.mk 2 0 s []
def hhT (s : ByteArray) : Term:=.mk 6 0 ⟨#[]⟩ [.mk 3 0 ⟨#[]⟩ [shT,txT s]]
def prT (s : ByteArray) : Term:=.mk 3 0 ⟨#[]⟩ [txT s,a1]
def seT (s s' : ByteArray) : Term:=.mk 7 0 ⟨#[]⟩ [hhT s,prT s']

theorem no_atom {ps : List Term} {a : Term} (h1 : a.op = 1) (h : a ∉ ps) (n : Nat) : madeN ps n a = false:=by
  cases n with
  | zero => rfl
  | succ n =>
    rw [madeN_succ,decide_eq_false (by omega),hasT_no.2 h,decide_eq_true h1]
    rfl
theorem no_share {ps : List Term} (h0 : a0 ∉ ps) (h2 : a2 ∉ ps) (hs : shT ∉ ps) (n : Nat) : madeN ps n shT = false:=by
  cases n with
  | zero => rfl
  | succ n =>
    rw [madeN_succ,hasT_no.2 hs]
    have e0:=no_atom (a:=a0) rfl h0 n
    have e2:=no_atom (a:=a2) rfl h2 n
    simp [shT,Term.op,Term.kids,e0,e2,andB]
theorem no_key {ps : List Term} {s : ByteArray} (h0 : a0 ∉ ps) (h2 : a2 ∉ ps) (hs : shT ∉ ps) (hp : Term.mk 3 0 ⟨#[]⟩ [shT,txT s] ∉ ps) (hh : hhT s ∉ ps) (n : Nat) : madeN ps n (hhT s) = false:=by
  cases n with
  | zero => rfl
  | succ n =>
    rw [madeN_succ,hasT_no.2 hh]
    have e : madeN ps n (Term.mk 3 0 ⟨#[]⟩ [shT,txT s]) = false:=by
      cases n with
      | zero => rfl
      | succ n =>
        rw [madeN_succ,hasT_no.2 hp]
        have e:=no_share h0 h2 hs n
        simp [Term.op,Term.kids,e]
    simp [hhT,Term.op,Term.kids,e]
theorem no_madeB {ps : List Term} {t : Term} (h : ∀ n,madeN ps n t = false) : madeB ps t = false:=by
  unfold madeB
  rw [h]
  cases okT t <;> rfl

/-- What is heard before the secret is told. -/
def Heard (s s' : ByteArray) (t : Term) : Prop:=Clean t ∨ t = seT s s' ∨ t = pubOf a0 ∨ t = pubOf a2
theorem w_sh0 : withinT a0 shT = true:=within_up (u:=a0) (by simp [shT,Term.kids]) (within_self _)
theorem heard_no {s s' : ByteArray} {t : Term} (hd : ¬ Clean t) (h1 : t.op ≠ 7) (h2 : t.op ≠ 4) : ¬ Heard s s' t:=by
  rintro (h|rfl|rfl|rfl)
  · exact hd h
  · exact h1 rfl
  · exact h2 rfl
  · exact h2 rfl
section
variable {s s' : ByteArray} {l : List Term}
theorem hn_a0 (hl : ∀ x,x ∈ l → Heard s s' x) : a0 ∉ l:=fun h => heard_no (dirty0 (within_self _)) (by decide) (by decide) (hl _ h)
theorem hn_a1 (hl : ∀ x,x ∈ l → Heard s s' x) : a1 ∉ l:=fun h => heard_no (dirty1 (within_self _)) (by decide) (by decide) (hl _ h)
theorem hn_a2 (hl : ∀ x,x ∈ l → Heard s s' x) : a2 ∉ l:=fun h => heard_no (dirty2 (within_self _)) (by decide) (by decide) (hl _ h)
theorem hn_sh (hl : ∀ x,x ∈ l → Heard s s' x) : shT ∉ l:=fun h => heard_no (dirty0 w_sh0) (by decide) (by decide) (hl _ h)
theorem hn_key (hl : ∀ x,x ∈ l → Heard s s' x) (n : Nat) : madeN l n (hhT s) = false:=by
  have hp : withinT a0 (Term.mk 3 0 ⟨#[]⟩ [shT,txT s]) = true:=within_up (u:=shT) (by simp [Term.kids]) w_sh0
  refine no_key (hn_a0 hl) (hn_a2 hl) (hn_sh hl) (fun h => heard_no (dirty0 hp) (by show (3 : Int) ≠ 7;decide) (by show (3 : Int) ≠ 4;decide) (hl _ h)) (fun h => heard_no (dirty0 (within_up (u:=Term.mk 3 0 ⟨#[]⟩ [shT,txT s]) (by simp [hhT,Term.kids]) hp)) ?_ ?_ (hl _ h)) n
  · show (6 : Int) ≠ 7;decide
  · show (6 : Int) ≠ 4;decide
end
theorem apart_pub (l : List Term) (a : Term) : apartT l (pubOf a) = []:=by simp [apartT,pubOf,Term.op]
theorem heard_apart {s s' : ByteArray} (l : List Term) (hl : ∀ x,x ∈ l → Heard s s' x) (t : Term) (ht : Heard s s' t) (x : Term) (hx : x ∈ apartT l t) : Heard s s' x:=by
  rcases ht with h|rfl|rfl|rfl
  · exact .inl (h.kid (apartT_mem hx))
  · have hm : madeB l (hhT s) = false:=no_madeB (hn_key hl)
    simp [apartT,seT,Term.op,Term.kids,hm] at hx
  · rw [apart_pub] at hx;cases hx
  · rw [apart_pub] at hx;cases hx
/-- Before the secret is told neither the sealed one nor the share can be made. -/
theorem hidden_before {ts : List Term} {s s' : ByteArray} (hc : ∀ t,t ∈ ts → Clean t) : canT (ts ++ [seT s s',pubOf a0,pubOf a2]) a1 = false ∧ canT (ts ++ [seT s s',pubOf a0,pubOf a2]) shT = false:=by
  have hp : ∀ x,x ∈ partsT (ts ++ [seT s s',pubOf a0,pubOf a2]) → Heard s s' x:=by
    refine partsT_all heard_apart _ (fun t ht _ => ?_)
    simp only [List.mem_append,List.mem_cons,List.not_mem_nil,or_false] at ht
    rcases ht with h|rfl|rfl|rfl
    · exact .inl (hc t h)
    · exact .inr (.inl rfl)
    · exact .inr (.inr (.inl rfl))
    · exact .inr (.inr (.inr rfl))
  exact ⟨no_madeB (fun n => no_atom rfl (hn_a1 hp) n),no_madeB (fun n => no_share (hn_a0 hp) (hn_a2 hp) (hn_sh hp) n)⟩

/-! ### Behind -/
theorem nodup_le : ∀ {l m : List Term},l.Nodup → (∀ x,x ∈ l → x ∈ m) → l.length ≤ m.length
  | [],m,_,_ => Nat.zero_le _
  | a :: l,m,hn,h => by
    obtain ⟨hna,hn⟩:=List.nodup_cons.1 hn
    have ha:=h a (List.mem_cons_self ..)
    obtain ⟨m1,m2,rfl⟩:=List.append_of_mem ha
    have:=nodup_le (l:=l) (m:=m1 ++ m2) hn (fun x hx => by
      have hx':=h x (List.mem_cons_of_mem _ hx)
      have hne : x ≠ a:=fun e => hna (e ▸ hx)
      simp only [List.mem_append,List.mem_cons] at hx' ⊢
      rcases hx' with h|h|h
      · exact .inl h
      · exact absurd h hne
      · exact .inr h)
    simp only [List.length_append,List.length_cons] at this ⊢
    omega
def newT (s s' : ByteArray) : List Term:=[seT s s',pubOf a0,pubOf a2,a2,prT s',txT s',a1]
theorem new_dirty {s s' : ByteArray} {t : Term} (ht : t ∈ newT s s') (h2 : t.op ≠ 2) : ¬ Clean t:=by
  have hpr : withinT a1 (prT s') = true:=within_up (u:=a1) (by simp [prT,Term.kids]) (within_self _)
  simp only [newT,List.mem_cons,List.not_mem_nil,or_false] at ht
  rcases ht with rfl|rfl|rfl|rfl|rfl|rfl|rfl
  · exact dirty1 (within_up (u:=prT s') (by simp [seT,Term.kids]) hpr)
  · exact dirty0 (within_up (u:=a0) (by simp [pubOf,Term.kids]) (within_self _))
  · exact dirty2 (within_up (u:=a2) (by simp [pubOf,Term.kids]) (within_self _))
  · exact dirty2 (within_self _)
  · exact dirty1 hpr
  · exact absurd rfl h2
  · exact dirty1 (within_self _)
theorem made_node {ps : List Term} {n : Nat} {t : Term} (h5 : t.op ≠ 5) (h1 : t.op ≠ 1) (h : ∀ x,x ∈ t.kids → madeN ps n x = true) : madeN ps (n + 1) t = true:=by
  rw [madeN_succ,decide_eq_false h5,decide_eq_false h1]
  have : t.kids.all (madeN ps n) = true:=List.all_eq_true.2 h
  rw [this]
  cases decide (t.op = 2) <;> cases hasT ps t <;> rfl
theorem made_text {ps : List Term} {n : Nat} (s : ByteArray) : madeN ps (n + 1) (txT s) = true:=by
  rw [madeN_succ,show decide ((txT s).op = 2) = true from rfl]
  rfl
theorem made_sh {ps : List Term} (h2 : a2 ∈ ps) (h0 : pubOf a0 ∈ ps) (n : Nat) : madeN ps (n + 2) shT = true:=by
  have e2 : madeN ps (n + 1) a2 = true:=by
    rw [madeN_succ,hasT_iff.2 h2]
    cases decide (a2.op = 2) <;> rfl
  have e0 : madeN ps (n + 1) (pubOf a0) = true:=by
    rw [madeN_succ,hasT_iff.2 h0]
    cases decide ((pubOf a0).op = 2) <;> rfl
  rw [madeN_succ]
  have : andB (madeN ps (n + 1) a2) (madeN ps (n + 1) (pubOf a0)) = true:=by rw [e2,e0];rfl
  simp only [shT,Term.op,Term.kids,this]
  cases hasT ps (Term.mk 5 0 ⟨#[]⟩ [a0,a2]) <;> cases andB (madeN ps (n + 1) a0) (madeN ps (n + 1) (pubOf a2)) <;> rfl
theorem made_key {ps : List Term} {s : ByteArray} (h2 : a2 ∈ ps) (h0 : pubOf a0 ∈ ps) (n : Nat) : madeN ps (n + 4) (hhT s) = true:=by
  refine made_node (by show (6 : Int) ≠ 5;decide) (by show (6 : Int) ≠ 1;decide) (fun x hx => ?_)
  simp only [hhT,Term.kids,List.mem_singleton] at hx
  subst hx
  refine made_node (by show (3 : Int) ≠ 5;decide) (by show (3 : Int) ≠ 1;decide) (fun x hx => ?_)
  simp only [Term.kids,List.mem_cons,List.not_mem_nil,or_false] at hx
  rcases hx with rfl|rfl
  · exact made_sh h2 h0 n
  · exact made_text s
/-- Behind the secret both can be made. -/
theorem hidden_behind {ts : List Term} {s s' : ByteArray} (hc : ∀ t,t ∈ ts → Clean t) (hf : ∀ t,t ∈ ts → okT t = true → fineT t) (hlen : ts.length ≤ 100) (hp : (partsT ts).length ≤ 200)
    (ok1 : okT (seT s s') = true) (ok2 : okT (pubOf a0) = true) (ok3 : okT a2 = true) (ok4 : okT a1 = true) (ok5 : okT shT = true) (ok6 : okT (hhT s) = true) (hn6 : 5 ≤ (hhT s).nods) (hn5 : 2 ≤ shT.nods) :
    canT (ts ++ [seT s s',pubOf a0,pubOf a2,a2]) a1 = true ∧ canT (ts ++ [seT s s',pubOf a0,pubOf a2,a2]) shT = true:=by
  generalize hall : ts ++ [seT s s',pubOf a0,pubOf a2,a2] = all
  have hal : all.length ≤ 104:=by rw [← hall];simp;omega
  have hfl:=first_short all
  have hcl : Clean ∘ id = Clean:=rfl
  have hclean : ∀ x,x ∈ partsT ts → Clean x:=partsT_all (fun l hl t ht x hx => ht.kid (apartT_mem hx)) ts (fun t ht _ => hc t ht)
  have hclosed:=partsT_closed (ts:=ts) (by omega)
  have hD : ∀ x,x ∈ partsT all → x ∈ partsT ts ++ newT s s':=by
    refine partsT_all (Pd:=fun x => x ∈ partsT ts ++ newT s s') (fun l hl t ht x hx => ?_) all (fun t ht ho => ?_)
    · rcases List.mem_append.1 ht with ht|ht
      · refine List.mem_append.2 (.inl (hclosed t ht x ?_))
        have hm : ∀ k,k ∈ t.kids → madeB l k = true → madeB (partsT ts) k = true:=by
          intro k hk hmk
          unfold madeB at hmk ⊢
          cases ho : okT k with
          | false => rw [ho] at hmk;cases hmk
          | true =>
            rw [ho] at hmk
            refine madeN_of (R:=Clean) (fun t h x hx => h.kid hx) (fun t h => h.pub) (fun t hcl h2 hin => ?_) k.nods k ((hclean t ht).kid hk) hmk
            rcases List.mem_append.1 (hl t hin) with h|h
            · exact h
            · exact absurd hcl (new_dirty h h2)
        unfold apartT at hx ⊢
        split
        · rename_i h3;rw [if_pos h3] at hx;exact hx
        rename_i h3
        rw [if_neg h3] at hx
        split
        · rename_i h8;rw [if_pos h8] at hx;exact hx
        rename_i h8
        rw [if_neg h8] at hx
        split
        · rename_i h7
          rw [if_pos h7] at hx
          split at hx
          · rename_i k r hk
            cases hmk : madeB l k with
            | true =>
              rw [hmk] at hx
              simp only [hk,hm k (by rw [hk];simp) hmk]
              exact hx
            | false => rw [hmk] at hx;cases hx
          · cases hx
        · rename_i h7;rw [if_neg h7] at hx;cases hx
      · refine List.mem_append.2 (.inr ?_)
        simp only [newT,List.mem_cons,List.not_mem_nil,or_false] at ht ⊢
        rcases ht with rfl|rfl|rfl|rfl|rfl|rfl|rfl
        · have hx2 : x ∈ (bif madeB l (hhT s) then [prT s'] else []):=by
            unfold apartT at hx
            simpa [seT,Term.op,Term.kids] using hx
          cases hmk : madeB l (hhT s) with
          | true => rw [hmk] at hx2;simp at hx2;subst hx2;simp
          | false => rw [hmk] at hx2;cases hx2
        · rw [apart_pub] at hx;cases hx
        · rw [apart_pub] at hx;cases hx
        · have:=apartT_mem hx;simp [a2,atomT,Term.kids] at this
        · have:=apartT_mem hx
          simp only [prT,Term.kids,List.mem_cons,List.not_mem_nil,or_false] at this
          rcases this with rfl|rfl <;> simp
        · have:=apartT_mem hx;simp [txT,Term.kids] at this
        · have:=apartT_mem hx;simp [a1,atomT,Term.kids] at this
    · rw [← hall] at ht
      simp only [List.mem_append,List.mem_cons,List.not_mem_nil,or_false] at ht
      rcases ht with h|rfl|rfl|rfl|rfl
      · exact List.mem_append.2 (.inl (partsT_sub (first_in h ho (by have:=first_short ts;omega))))
      · exact List.mem_append.2 (.inr (by simp [newT]))
      · exact List.mem_append.2 (.inr (by simp [newT]))
      · exact List.mem_append.2 (.inr (by simp [newT]))
      · exact List.mem_append.2 (.inr (by simp [newT]))
  have hlen2 : (partsT all).length ≤ 207:=by
    have:=nodup_le (partsT_nodup all) hD
    simp only [List.length_append,newT,List.length_cons,List.length_nil] at this
    omega
  have hca:=partsT_closed (ts:=all) (by omega)
  have hin : ∀ t,t ∈ all → okT t = true → t ∈ partsT all:=fun t ht ho => partsT_sub (first_in ht ho (by omega))
  have m2 : a2 ∈ partsT all:=hin a2 (by rw [← hall];simp) ok3
  have m0 : pubOf a0 ∈ partsT all:=hin (pubOf a0) (by rw [← hall];simp) ok2
  have ms : seT s s' ∈ partsT all:=hin (seT s s') (by rw [← hall];simp) ok1
  have mk : madeB (partsT all) (hhT s) = true:=by
    unfold madeB
    rw [ok6,cond_true]
    obtain ⟨n,hn⟩ : ∃ n,(hhT s).nods = n + 4:=⟨(hhT s).nods - 4,by omega⟩
    rw [hn]
    exact made_key m2 m0 n
  have mp : prT s' ∈ partsT all:=hca _ ms _ (by
    unfold apartT
    simp only [seT,Term.op,Term.kids,mk]
    simp)
  have m1 : a1 ∈ partsT all:=hca _ mp _ (by
    unfold apartT
    simp [prT,Term.op,Term.kids])
  refine ⟨madeB_has ok4 m1,?_⟩
  show madeB (partsT all) shT = true
  unfold madeB
  rw [ok5,cond_true]
  obtain ⟨n,hn⟩ : ∃ n,shT.nods = n + 2:=⟨shT.nods - 2,by omega⟩
  rw [hn]
  exact made_sh m2 m0 n
end Go.Proofs.YtlddcimpdkcgeaaDoor
