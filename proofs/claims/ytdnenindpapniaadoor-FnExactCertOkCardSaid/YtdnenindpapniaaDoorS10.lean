/- Code over abstract states; contracts. -/
import Derived.Test.YtdnenindpapniaaDoorS9
set_option linter.unusedVariables false
set_option linter.unusedSimpArgs false
namespace Go.Proofs.YtdnenindpapniaaDoor.Sym
open Go.RowKit

/-! ### Weaker values, weaker states -/
mutual
def A.Le : A → A → Prop
  | _, .any => True
  | .d o x, .d o' y => (o' = true → o = true) ∧ x = y
  | .nil, .d _ y => y = .sl []
  | .nil, .nil => True
  | .agg xs, .agg ys => A.LeL xs ys
  | .tup xs, .tup ys => A.LeL xs ys
  | .ptr i a, .ptr j b => i = j ∧ a = b
  | .osl i, .osl j => i = j
  | .otr i, .otr j => i = j
  | .ep ds a, .ep ds' b => ds = ds' ∧ a = b
  | .fn f xs, .fn g ys => f = g ∧ A.LeL xs ys
  | _, _ => False
def A.LeL : List A → List A → Prop
  | [], [] => True
  | x :: xs, y :: ys => A.Le x y ∧ A.LeL xs ys
  | _, _ => False
end

def O.Le : O → O → Prop
  | _, .dead => True
  | .box xs, .box ys => A.LeL xs ys
  | .row q a b xs, .row q' a' b' ys => (q' = true → q = true) ∧ a = a' ∧ b = b' ∧ xs = ys
  | .tree xs, .tree ys => xs = ys
  | _, _ => False
def leH : List O → List O → Prop
  | _, [] => True
  | o :: h, o' :: h' => O.Le o o' ∧ leH h h'
  | [], _ :: _ => False
def leT (σ : St) : List (Nat × A) → Prop
  | [] => True
  | (k, x) :: t => A.Le (lkp σ.t k) x ∧ leT σ t
def freeT (p : Nat → Bool) : List (Nat × A) → Bool
  | [] => true
  | (_, x) :: t => x.free p && freeT p t
def freeH (p : Nat → Bool) : List O → Bool
  | [] => true
  | .box cells :: h => A.freeL p cells && freeH p h
  | _ :: h => freeH p h
/-- σ says no less than σ'. -/
def StLe (σ σ' : St) : Prop := leT σ σ'.t ∧ leH σ.h σ'.h ∧ freeT (fun i => Nat.blt i σ'.h.length) σ'.t = true ∧ freeH (fun i => Nat.blt i σ'.h.length) σ'.h = true

section
variable {P : Program} {c : Cx} {σ : St} {β : List Value} {a : Act} {w w' : World} {o : Oper}

mutual
theorem VSim.le {ok : Nat → Prop} {lo : Nat} : ∀ {x y : A} {v : Value}, A.Le x y → VSim w ok lo β x v → VSim w ok lo β y v
  | _, .any, _, _, _ => by simp [VSim]
  | .d o x, .d o' y, v, hl, h => by
    simp only [A.Le] at hl
    obtain ⟨h1, rfl⟩ := hl
    cases o' with
    | true => rw [h1 rfl] at h; exact h
    | false => simp only [VSim]; exact h.read
  | .nil, .d o y, v, hl, h => by
    simp only [A.Le] at hl
    subst hl
    simp only [VSim] at h
    subst h
    cases o with
    | true => exact ⟨[], .none [] [] [] .nil, List.nodup_nil, fun b hb => by cases hb⟩
    | false => simp only [VSim]; exact Rep.nil _ _ _ _
  | .nil, .nil, _, _, h => h
  | .agg xs, .agg ys, v, hl, h => by
    simp only [VSim, A.Le] at h hl ⊢
    obtain ⟨vs, h1, h2⟩ := h
    exact ⟨vs, h1, VSimL.le hl h2⟩
  | .tup xs, .tup ys, v, hl, h => by
    simp only [VSim, A.Le] at h hl ⊢
    obtain ⟨vs, h1, h2⟩ := h
    exact ⟨vs, h1, VSimL.le hl h2⟩
  | .ptr i a, .ptr j b, v, hl, h => by simp only [A.Le] at hl; obtain ⟨rfl, rfl⟩ := hl; exact h
  | .osl i, .osl j, v, hl, h => by simp only [A.Le] at hl; subst hl; exact h
  | .otr i, .otr j, v, hl, h => by simp only [A.Le] at hl; subst hl; exact h
  | .ep ds a, .ep ds' b, v, hl, h => by simp only [A.Le] at hl; obtain ⟨rfl, rfl⟩ := hl; exact h
  | .fn f xs, .fn g ys, v, hl, h => by
    simp only [VSim, A.Le] at h hl ⊢
    obtain ⟨vs, h1, h2⟩ := h
    obtain ⟨rfl, hl⟩ := hl
    exact ⟨vs, h1, VSimL.le hl h2⟩
  | .any, .d _ _, _, hl, _ | .any, .ptr _ _, _, hl, _ | .any, .osl _, _, hl, _ | .any, .optr _ _ _ _, _, hl, _ | .any, .ep _ _, _, hl, _ | .any, .fn _ _, _, hl, _ | .any, .agg _, _, hl, _ | .any, .tup _, _, hl, _ | .any, .opt _ _, _, hl, _ | .any, .nil, _, hl, _ => by simp [A.Le] at hl
  | .d _ _, .ptr _ _, _, hl, _ | .d _ _, .osl _, _, hl, _ | .d _ _, .optr _ _ _ _, _, hl, _ | .d _ _, .ep _ _, _, hl, _ | .d _ _, .fn _ _, _, hl, _ | .d _ _, .agg _, _, hl, _ | .d _ _, .tup _, _, hl, _ | .d _ _, .opt _ _, _, hl, _ | .d _ _, .nil, _, hl, _ => by simp [A.Le] at hl
  | .ptr _ _, .d _ _, _, hl, _ | .ptr _ _, .osl _, _, hl, _ | .ptr _ _, .optr _ _ _ _, _, hl, _ | .ptr _ _, .ep _ _, _, hl, _ | .ptr _ _, .fn _ _, _, hl, _ | .ptr _ _, .agg _, _, hl, _ | .ptr _ _, .tup _, _, hl, _ | .ptr _ _, .opt _ _, _, hl, _ | .ptr _ _, .nil, _, hl, _ => by simp [A.Le] at hl
  | .osl _, .d _ _, _, hl, _ | .osl _, .ptr _ _, _, hl, _ | .osl _, .optr _ _ _ _, _, hl, _ | .osl _, .ep _ _, _, hl, _ | .osl _, .fn _ _, _, hl, _ | .osl _, .agg _, _, hl, _ | .osl _, .tup _, _, hl, _ | .osl _, .opt _ _, _, hl, _ | .osl _, .nil, _, hl, _ => by simp [A.Le] at hl
  | .optr _ _ _ _, .d _ _, _, hl, _ | .optr _ _ _ _, .ptr _ _, _, hl, _ | .optr _ _ _ _, .osl _, _, hl, _ | .optr _ _ _ _, .optr _ _ _ _, _, hl, _ | .optr _ _ _ _, .ep _ _, _, hl, _ | .optr _ _ _ _, .fn _ _, _, hl, _ | .optr _ _ _ _, .agg _, _, hl, _ | .optr _ _ _ _, .tup _, _, hl, _ | .optr _ _ _ _, .opt _ _, _, hl, _ | .optr _ _ _ _, .nil, _, hl, _ => by simp [A.Le] at hl
  | .ep _ _, .d _ _, _, hl, _ | .ep _ _, .ptr _ _, _, hl, _ | .ep _ _, .osl _, _, hl, _ | .ep _ _, .optr _ _ _ _, _, hl, _ | .ep _ _, .fn _ _, _, hl, _ | .ep _ _, .agg _, _, hl, _ | .ep _ _, .tup _, _, hl, _ | .ep _ _, .opt _ _, _, hl, _ | .ep _ _, .nil, _, hl, _ => by simp [A.Le] at hl
  | .fn _ _, .d _ _, _, hl, _ | .fn _ _, .ptr _ _, _, hl, _ | .fn _ _, .osl _, _, hl, _ | .fn _ _, .optr _ _ _ _, _, hl, _ | .fn _ _, .ep _ _, _, hl, _ | .fn _ _, .agg _, _, hl, _ | .fn _ _, .tup _, _, hl, _ | .fn _ _, .opt _ _, _, hl, _ | .fn _ _, .nil, _, hl, _ => by simp [A.Le] at hl
  | .agg _, .d _ _, _, hl, _ | .agg _, .ptr _ _, _, hl, _ | .agg _, .osl _, _, hl, _ | .agg _, .optr _ _ _ _, _, hl, _ | .agg _, .ep _ _, _, hl, _ | .agg _, .fn _ _, _, hl, _ | .agg _, .tup _, _, hl, _ | .agg _, .opt _ _, _, hl, _ | .agg _, .nil, _, hl, _ => by simp [A.Le] at hl
  | .tup _, .d _ _, _, hl, _ | .tup _, .ptr _ _, _, hl, _ | .tup _, .osl _, _, hl, _ | .tup _, .optr _ _ _ _, _, hl, _ | .tup _, .ep _ _, _, hl, _ | .tup _, .fn _ _, _, hl, _ | .tup _, .agg _, _, hl, _ | .tup _, .opt _ _, _, hl, _ | .tup _, .nil, _, hl, _ => by simp [A.Le] at hl
  | .opt _ _, .d _ _, _, hl, _ | .opt _ _, .ptr _ _, _, hl, _ | .opt _ _, .osl _, _, hl, _ | .opt _ _, .optr _ _ _ _, _, hl, _ | .opt _ _, .ep _ _, _, hl, _ | .opt _ _, .fn _ _, _, hl, _ | .opt _ _, .agg _, _, hl, _ | .opt _ _, .tup _, _, hl, _ | .opt _ _, .opt _ _, _, hl, _ | .opt _ _, .nil, _, hl, _ => by simp [A.Le] at hl
  | .nil, .ptr _ _, _, hl, _ | .nil, .osl _, _, hl, _ | .nil, .optr _ _ _ _, _, hl, _ | .nil, .ep _ _, _, hl, _ | .nil, .fn _ _, _, hl, _ | .nil, .agg _, _, hl, _ | .nil, .tup _, _, hl, _ | .nil, .opt _ _, _, hl, _ => by simp [A.Le] at hl
  | .otr _, .d _ _, _, hl, _ | .otr _, .ptr _ _, _, hl, _ | .otr _, .osl _, _, hl, _ | .otr _, .optr _ _ _ _, _, hl, _ | .otr _, .ep _ _, _, hl, _ | .otr _, .fn _ _, _, hl, _ | .otr _, .agg _, _, hl, _ | .otr _, .tup _, _, hl, _ | .otr _, .opt _ _, _, hl, _ | .otr _, .nil, _, hl, _ => by simp [A.Le] at hl
  | .any, .otr _, _, hl, _ | .d _ _, .otr _, _, hl, _ | .ptr _ _, .otr _, _, hl, _ | .osl _, .otr _, _, hl, _ | .optr _ _ _ _, .otr _, _, hl, _ | .ep _ _, .otr _, _, hl, _ | .fn _ _, .otr _, _, hl, _ | .agg _, .otr _, _, hl, _ | .tup _, .otr _, _, hl, _ | .opt _ _, .otr _, _, hl, _ | .nil, .otr _, _, hl, _ => by simp [A.Le] at hl
theorem VSimL.le {ok : Nat → Prop} {lo : Nat} : ∀ {xs ys : List A} {vs : List Value}, A.LeL xs ys → VSimL w ok lo β xs vs → VSimL w ok lo β ys vs
  | [], [], _, _, h => h
  | x :: xs, y :: ys, v :: vs, hl, h => by
    simp only [VSimL, A.LeL] at h hl ⊢
    exact ⟨VSim.le hl.1 h.1, VSimL.le hl.2 h.2⟩
  | _ :: _, _ :: _, [], _, h => by simp [VSimL] at h
  | [], _ :: _, _, hl, _ => by simp [A.LeL] at hl
  | _ :: _, [], _, hl, _ => by simp [A.LeL] at hl
end

theorem O.le_blk {q q' : O} (h : O.Le q q') (v : Value) (b : Nat) : b ∈ blkOf q' v → b ∈ blkOf q v := by
  cases q' with
  | dead => intro h'; simp [blkOf] at h'
  | box cells =>
    cases q <;> simp only [O.Le] at h
    intro h'
    cases v <;> first | exact h' | (rename_i x; cases x <;> exact h')
  | row a0 a1 a2 a3 =>
    cases q <;> simp only [O.Le] at h
    exact fun h' => h'
  | tree xs =>
    cases q <;> simp only [O.Le] at h
    exact fun h' => h'

theorem leH_get : ∀ {h h' : List O}, leH h h' → ∀ {i : Nat} {q' : O}, h'[i]? = some q' → ∃ q, h[i]? = some q ∧ O.Le q q'
  | _, [], _, i, q', hq => by simp at hq
  | o :: h, o' :: h', hl, 0, q', hq => by
    simp only [List.getElem?_cons_zero, Option.some.injEq] at hq ⊢
    subst hq
    exact ⟨o, rfl, hl.1⟩
  | o :: h, o' :: h', hl, i + 1, q', hq => by
    simp only [List.getElem?_cons_succ] at hq ⊢
    exact leH_get hl.2 hq
  | [], _ :: _, hl, _, _, _ => hl.elim

theorem leH_len : ∀ {h h' : List O}, leH h h' → h'.length ≤ h.length
  | _, [], _ => Nat.zero_le _
  | o :: h, o' :: h', hl => by have := leH_len hl.2; simp; omega
  | [], _ :: _, hl => hl.elim

theorem leT_lkp : ∀ {t : List (Nat × A)}, leT σ t → ∀ (p : Nat → Bool), freeT p t = true → ∀ j, A.Le (lkp σ.t j) (lkp t j) ∧ (lkp t j).free p = true
  | [], _, _, _, _ => ⟨by simp [lkp, A.Le], rfl⟩
  | (k, x) :: t, h, p, hf, j => by
    simp only [freeT, Bool.and_eq_true] at hf
    simp only [lkp]
    by_cases hk : k = j
    · subst hk; rw [Nat.beq_refl]; exact ⟨h.1, hf.1⟩
    · rw [beq_no hk]; exact leT_lkp h.2 p hf.2 j

theorem freeH_get (p : Nat → Bool) : ∀ {h : List O}, freeH p h = true → ∀ {i : Nat} {cells : List A}, h[i]? = some (.box cells) → A.freeL p cells = true
  | [], _, i, cells, hi => by simp at hi
  | .box cs :: h, hf, 0, cells, hi => by
    simp only [freeH, Bool.and_eq_true] at hf
    simp only [List.getElem?_cons_zero, Option.some.injEq, O.box.injEq] at hi
    subst hi; exact hf.1
  | .box cs :: h, hf, i + 1, cells, hi => by
    simp only [freeH, Bool.and_eq_true] at hf
    simp only [List.getElem?_cons_succ] at hi
    exact freeH_get p hf.2 hi
  | .row _ _ _ _ :: h, hf, 0, cells, hi => by simp at hi
  | .row _ _ _ _ :: h, hf, i + 1, cells, hi => by
    simp only [freeH] at hf
    simp only [List.getElem?_cons_succ] at hi
    exact freeH_get p hf hi
  | .tree _ :: h, hf, 0, cells, hi => by simp at hi
  | .tree _ :: h, hf, i + 1, cells, hi => by
    simp only [freeH] at hf
    simp only [List.getElem?_cons_succ] at hi
    exact freeH_get p hf hi
  | .dead :: h, hf, 0, cells, hi => by simp at hi
  | .dead :: h, hf, i + 1, cells, hi => by
    simp only [freeH] at hf
    simp only [List.getElem?_cons_succ] at hi
    exact freeH_get p hf hi

theorem Sim.le {σ' : St} (S : Sim c σ β a w) (h : StLe σ σ') : Sim c σ' (β.take σ'.h.length) a w := by
  obtain ⟨ht, hh, hf, hfh⟩ := h
  have get : ∀ {i : Nat} {x : Value}, (β.take σ'.h.length)[i]? = some x → i < σ'.h.length ∧ β[i]? = some x := by
    intro i x h
    rw [List.getElem?_take] at h
    split at h
    · exact ⟨by assumption, h⟩
    · cases h
  have hβ : ∀ i u, (fun i => Nat.blt i σ'.h.length) i = true → β[i]? = some u → (β.take σ'.h.length)[i]? = some u := fun i u hi hu => by
    rw [List.getElem?_take, if_pos (by simpa using hi)]; exact hu
  have hm : ∀ b, okOf c w σ.h β b → okOf c w σ'.h (β.take σ'.h.length) b ∧ w.heap[b]? = w.heap[b]? := by
    intro b hk
    refine ⟨⟨hk.1, hk.2.1, fun i q u h1 h2 h3 => ?_⟩, rfl⟩
    obtain ⟨q0, g1, g2⟩ := leH_get hh h1
    exact hk.2.2 i q0 u g1 (get h2).2 (O.le_blk g2 u b h3)
  refine ⟨S.defers, S.size, S.fr, by have := leH_len hh; simp [S.len]; omega, fun i v h => S.vone i v (get h).2, fun i q u h1 h2 => ?_, fun i q u b h1 h2 h3 => ?_, fun i j q q1 u u1 b hij h1 h2 h3 h4 h5 h6 => ?_, fun j => ?_⟩
  · obtain ⟨q0, g1, g2⟩ := leH_get hh h1
    have ho := S.obj i q0 u g1 (get h2).2
    cases q with
    | dead => trivial
    | row ow e1 e2 xs =>
      cases q0 <;> simp only [O.Le] at g2
      obtain ⟨g0, rfl, rfl, rfl⟩ := g2
      obtain ⟨inner, k1, k2, k3, k4, k5⟩ := ho
      refine ⟨inner, k1, k2, k3, k4.move hm, fun ho => ?_⟩
      obtain ⟨m0, F, m1, m2, m3⟩ := k5 (g0 ho)
      exact ⟨m0, F, m1, m2, fun b hb => ⟨(hm b (m3 b hb).1).1, (m3 b hb).2⟩⟩
    | tree xs =>
      cases q0 <;> simp only [O.Le] at g2
      subst g2
      exact ho
    | box cells =>
      cases q0 <;> simp only [O.Le] at g2
      obtain ⟨b, vs, ty, k0, k1, k2⟩ := ho
      refine ⟨b, vs, ty, k0, k1, ?_⟩
      exact (VSimL.le g2 k2).move (p := fun i => Nat.blt i σ'.h.length) hm (Nat.le_refl _) hβ (freeH_get _ hfh h1)
  · obtain ⟨q0, g1, g2⟩ := leH_get hh h1
    exact S.own i q0 u b g1 (get h2).2 (O.le_blk g2 u b h3)
  · obtain ⟨q0, g1, g2⟩ := leH_get hh h1
    obtain ⟨q2, g3, g4⟩ := leH_get hh h3
    exact S.sep i j q0 q2 u u1 b hij g1 (get h2).2 g3 (get h4).2 (O.le_blk g2 u b h5) (O.le_blk g4 u1 b h6)
  · have := leT_lkp ht (fun i => Nat.blt i σ'.h.length) hf j
    exact (VSim.le this.1 (S.tmp j)).move (p := fun i => Nat.blt i σ'.h.length) hm (Nat.le_refl _) hβ this.2

end

/-! ### Contracts -/
mutual
/-- As an argument: read, and of whoever it is. -/
def A.arg : A → A
  | .d _ x => .d false x
  | .nil => .d false (.sl [])
  | .fn f xs => .fn f (A.argL xs)
  | .agg xs => .agg (A.argL xs)
  | .tup xs => .tup (A.argL xs)
  | .ep ds off => .ep ds off
  | .ptr _ _ => .any
  | .osl _ => .any
  | .otr _ => .any
  | .optr _ _ _ _ => .any
  | .opt _ _ => .any
  | .any => .any
def A.argL : List A → List A
  | [] => []
  | x :: xs => A.arg x :: A.argL xs
end

def Ext (w w' : World) : Prop := Fr (fun _ => False) w w'

def CtF (P : Program) (f : FuncId) : Prop := ∃ fn, P.funcs[f]? = some fn ∧ (fn.name == "runtime.NumGoroutine") = false ∧ fn.body.isNone = false

/-- Called with such arguments the function answers so; nothing that was there has turned. -/
def Ct (P : Program) (f : FuncId) (As : List A) (r : A) : Prop :=
  CtF P f ∧ ∀ (w : World) (ok : Nat → Prop) (vs : List Value), Laid w → (∀ b, ok b → b < w.heap.size) → VSimL w ok w.heap.size [] As vs →
    Calls P f vs.toArray w fun e w' => ∃ v, e = .returned v ∧ Ext w w' ∧ VSim w' (fun b => b < w'.heap.size ∧ (ok b ∨ w.heap.size ≤ b)) w.heap.size [] r v

mutual
/-- The slices of a value that owns all it holds. -/
def A.own1 : A → Option (List (List (List D)))
  | .d _ (.int _ _) => some []
  | .d _ (.bool _) => some []
  | .d _ (.str _) => some []
  | .d true (.sl xs) => some [xs]
  | .nil => some []
  | .any => some []
  | .agg xs => A.own1L xs
  | .tup xs => A.own1L xs
  | _ => none
def A.own1L : List A → Option (List (List (List D)))
  | [] => some []
  | x :: xs => match A.own1 x, A.own1L xs with | some l, some l' => some (l ++ l') | _, _ => none
end
mutual
/-- Its slice becomes an object. -/
def A.adp (n : Nat) : A → A
  | .d true (.sl _) => .otr n
  | .agg xs => .agg (A.adpL n xs)
  | .tup xs => .tup (A.adpL n xs)
  | x => x
def A.adpL (n : Nat) : List A → List A
  | [] => []
  | x :: xs => A.adp n x :: A.adpL n xs
end

def St.putO (σ : St) : Option Nat → A → St
  | none, _ => σ
  | some d, x => σ.put d x

/-- Behind a call. -/
def after (d : Option Nat) (σb σ : St) (r : A) (K : St → Prop) : Prop :=
  match A.own1 r with
  | some [xs] => K (St.putO ⟨σb.t, σb.h ++ [.tree xs]⟩ d (r.adp σb.h.length))
  | some _ => K (σb.putO d r)
  | none => K (σ.putO d r)

mutual
/-- An argument beside the tree i. -/
def A.mk1 (i : Nat) : A → A
  | .otr j => bif Nat.beq i j then .otr 0 else .any
  | .d _ x => .d false x
  | .nil => .d false (.sl [])
  | .agg xs => .agg (A.mk1L i xs)
  | _ => .any
def A.mk1L (i : Nat) : List A → List A
  | [] => []
  | x :: xs => A.mk1 i x :: A.mk1L i xs
end

/-- A value that is told by its data alone. -/
def scalar : A → Bool
  | .d _ (.int _ _) => true
  | .d _ (.bool _) => true
  | .d _ (.str _) => true
  | _ => false

/-- Called with such arguments, one of them a tree, the function turns the tree so, and nothing else. -/
def CtM (P : Program) (f : FuncId) (As : List A) (xs xs' : List (List D)) (r : A) : Prop :=
  CtF P f ∧ scalar r = true ∧ ∀ (w : World) (ok : Nat → Prop) (vs : List Value) (u : Value) (F : List Nat), Laid w → (∀ b, b ∈ F → lowB ≤ b) → (∀ b, ok b → b < w.heap.size ∧ b ∉ F) → (∀ b, b ∈ F → b < w.heap.size) → OwnL w [u] [.sl xs] F → F.Nodup →
    VSimL w ok w.heap.size [tv u F] As vs →
    Calls P f vs.toArray w fun e w' => ∃ v, e = .returned v ∧ Fr (fun b => b ∈ F) w w' ∧ OwnL w' [u] [.sl xs'] F ∧ VSim w' (fun _ => False) 0 [] r v

/-- The tree that a call may turn. -/
def treeArg (σ : St) (Bs : List A) : Option (Nat × List (List D)) :=
  match tids Bs with
  | [i] => match σ.h[i]? with | some (.tree xs) => some (i, xs) | _ => none
  | _ => none

def ACall (P : Program) (mk : Bool) (d : Option Nat) (σb : St) (Bs : List A) (σ : St) (f : FuncId) (As : List A) (K : St → Prop) : Prop :=
  (∃ r, Ct P f As r ∧ after d σb σ r K) ∨
  (mk = true ∧ ∃ i xs xs' r, treeArg σb Bs = some (i, xs) ∧ Bs.length = As.length ∧ CtM P f (A.mk1L i Bs) xs xs' r ∧ K (St.putO ⟨σb.t, σb.h.set i (.tree xs')⟩ d r))

structure G where
  d : Option Nat
  g : Option (Nat × Bool)
  i : I

def Res.go (P : Program) (mk : Bool) (d : Option Nat) (σ : St) (K : St → Prop) : Res → Prop
  | .bad => False
  | .val p x => p ∧ K (σ.putO d x)
  | .st p σ' x => p ∧ K (σ'.putO d x)
  | .call p σb Bs σ' f As => p ∧ ACall P mk d σb Bs σ' f (A.argL As) K

def bsel (want b : Bool) : Bool := bif want then b else !b

/-- One whose guard was not known to be. -/
def gopO (P : Program) (σ : St) (K : St → Prop) (g : G) (t : Nat) (want b g' : Bool) : Prop :=
  (g' = true → (bsel want b = true → (g.i.res (σ.put t (.d true (.bool want)))).go P true g.d (σ.put t (.d true (.bool want))) K) ∧ (bsel want b = false → K ((σ.put t (.d true (.bool (!want)))).putO g.d (.opt false (.d true (.bool false)))))) ∧ (g' = false → K (σ.putO g.d (.opt false (.d true (.bool false)))))

/-- One operation, guarded or not. -/
def gop (P : Program) (σ : St) (K : St → Prop) (g : G) : Prop :=
  match g.g with
  | none => (g.i.res σ).go P true g.d σ K
  | some (t, want) => match lkp σ.t t with
    | .d _ (.bool b) => match g.i.res σ with
      | .val p x => (bsel want b = true → p) ∧ K (σ.putO g.d (.opt (bsel want b) x))
      | _ => (bsel want b = true → (g.i.res (σ.put t (.d true (.bool want)))).go P true g.d (σ.put t (.d true (.bool want))) K) ∧ (bsel want b = false → K ((σ.put t (.d true (.bool (!want)))).putO g.d (.opt false (.d true (.bool false)))))
    | .opt g' (.d _ (.bool b)) => match g.i.res σ with
      | .val p x => (g' = true → bsel want b = true → p) ∧ K (σ.putO g.d (.opt (g' && bsel want b) x))
      | _ => gopO P σ K g t want b g'
    | _ => False

def aops (P : Program) : List G → (St → Prop) → St → Prop
  | [], K, σ => K σ
  | g :: r, K, σ => gop P σ (aops P r K) g

def toG (P : Program) (n : Nat) (ops : Array Oper) (o : Oper) : G :=
  match o.dst with
  | some d => if d < n then
      match o.guard with
      | none => ⟨some d, none, toI P o⟩
      | some (j, want) => match (ops[j]?).bind (·.dst) with
        | some t => if t < n then ⟨some d, some (t, want), toI P o⟩ else ⟨none, none, .bad⟩
        | none => ⟨none, none, .bad⟩
    else ⟨none, none, .bad⟩
  | none =>
      match o.guard with
      | none => ⟨none, none, toI P o⟩
      | some (j, want) => match (ops[j]?).bind (·.dst) with
        | some t => if t < n then ⟨none, some (t, want), toI P o⟩ else ⟨none, none, .bad⟩
        | none => ⟨none, none, .bad⟩

def SK (c : Cx) (K : St → Prop) (a : Act) (w : World) : Prop := ∃ σ β, K σ ∧ Sim c σ β a w

section
variable {P : Program} {c : Cx} {σ : St} {β : List Value} {a : Act} {w w' : World} {o : Oper} [hcx : Nonempty (CxOk c)]

mutual
theorem VSim.arg {ok : Nat → Prop} {lo : Nat} : ∀ {x : A} {v : Value}, VSim w ok lo β x v → VSim w ok lo β x.arg v
  | .d o x, v, h => by simp only [A.arg, VSim]; exact h.read
  | .nil, v, h => by simp only [A.arg, VSim] at h ⊢; subst h; exact Rep.nil _ _ _ _
  | .fn f xs, v, h => by
    simp only [VSim, A.arg] at h ⊢
    obtain ⟨vs, h1, h2⟩ := h
    exact ⟨vs, h1, VSimL.arg h2⟩
  | .agg xs, v, h => by
    simp only [VSim, A.arg] at h ⊢
    obtain ⟨vs, h1, h2⟩ := h
    exact ⟨vs, h1, VSimL.arg h2⟩
  | .tup xs, v, h => by
    simp only [VSim, A.arg] at h ⊢
    obtain ⟨vs, h1, h2⟩ := h
    exact ⟨vs, h1, VSimL.arg h2⟩
  | .ep ds off, v, h => h
  | .ptr _ _, _, _ | .osl _, _, _ | .otr _, _, _ | .optr _ _ _ _, _, _ | .opt _ _, _, _ | .any, _, _ => by simp [A.arg, VSim]
theorem VSimL.arg {ok : Nat → Prop} {lo : Nat} : ∀ {xs : List A} {vs : List Value}, VSimL w ok lo β xs vs → VSimL w ok lo β (A.argL xs) vs
  | [], [], _ => by simp [A.argL, VSimL]
  | x :: xs, v :: vs, h => by
    simp only [VSimL, A.argL] at h ⊢
    exact ⟨VSim.arg h.1, VSimL.arg h.2⟩
  | _ :: _, [], h => by simp [VSimL] at h
  | [], _ :: _, h => by simp [VSimL] at h
end

mutual
theorem A.arg_free (p : Nat → Bool) : ∀ x : A, x.arg.free p = true
  | .d _ _ | .nil | .ep _ _ | .ptr _ _ | .osl _ | .otr _ | .optr _ _ _ _ | .opt _ _ | .any => rfl
  | .fn f xs => by simp only [A.arg, A.free]; exact A.argL_free p xs
  | .agg xs => by simp only [A.arg, A.free]; exact A.argL_free p xs
  | .tup xs => by simp only [A.arg, A.free]; exact A.argL_free p xs
theorem A.argL_free (p : Nat → Bool) : ∀ xs : List A, A.freeL p (A.argL xs) = true
  | [] => rfl
  | x :: xs => by simp only [A.argL, A.freeL, Bool.and_eq_true]; exact ⟨A.arg_free p x, A.argL_free p xs⟩
end

mutual
/-- Among arguments nobody looks at 'lo': no owned data. -/
theorem VSim.argLo {ok : Nat → Prop} {lo lo' : Nat} {β' : List Value} : ∀ {x : A} {v : Value}, VSim w ok lo β x.arg v → VSim w ok lo' β' x.arg v
  | .d o x, v, h => by simp only [A.arg, VSim] at h ⊢; exact h
  | .nil, v, h => by simp only [A.arg, VSim] at h ⊢; exact h
  | .fn f xs, v, h => by
    simp only [VSim, A.arg] at h ⊢
    obtain ⟨vs, h1, h2⟩ := h
    exact ⟨vs, h1, VSimL.argLo h2⟩
  | .agg xs, v, h => by
    simp only [VSim, A.arg] at h ⊢
    obtain ⟨vs, h1, h2⟩ := h
    exact ⟨vs, h1, VSimL.argLo h2⟩
  | .tup xs, v, h => by
    simp only [VSim, A.arg] at h ⊢
    obtain ⟨vs, h1, h2⟩ := h
    exact ⟨vs, h1, VSimL.argLo h2⟩
  | .ep ds off, v, h => by simp only [A.arg, VSim] at h ⊢; exact h
  | .ptr _ _, _, _ | .osl _, _, _ | .otr _, _, _ | .optr _ _ _ _, _, _ | .opt _ _, _, _ | .any, _, _ => by simp [A.arg, VSim]
theorem VSimL.argLo {ok : Nat → Prop} {lo lo' : Nat} {β' : List Value} : ∀ {xs : List A} {vs : List Value}, VSimL w ok lo β (A.argL xs) vs → VSimL w ok lo' β' (A.argL xs) vs
  | [], [], _ => by simp [A.argL, VSimL]
  | x :: xs, v :: vs, h => by
    simp only [VSimL, A.argL] at h ⊢
    exact ⟨VSim.argLo h.1, VSimL.argLo h.2⟩
  | _ :: _, [], h => by simp [A.argL, VSimL] at h
  | [], _ :: _, h => by simp [A.argL, VSimL] at h
end

mutual
theorem VSim.mk1 {ok ok' : Nat → Prop} {lo lo' : Nat} {i : Nat} {u : Value} {F : List Nat} (hm : ∀ b, ok b → ok' b) (hi : β[i]? = some (tv u F)) : ∀ {x : A} {v : Value}, VSim w ok lo β x v → VSim w ok' lo' [tv u F] (A.mk1 i x) v
  | .otr j, v, h => by
    simp only [A.mk1]
    by_cases hj : i = j
    · subst hj
      rw [Nat.beq_refl]
      simp only [VSim, cond_true] at h ⊢
      obtain ⟨⟨G, h1⟩, h2⟩ := h
      rw [hi] at h1
      injection h1 with h1
      obtain ⟨rfl, rfl⟩ := tv_inj h1
      exact ⟨⟨F, rfl⟩, h2⟩
    · rw [beq_no hj]; simp [VSim]
  | .d o x, v, h => by simp only [A.mk1, VSim]; exact h.read.move (fun b hb => ⟨hm b hb, rfl⟩)
  | .nil, v, h => by simp only [A.mk1, VSim] at h ⊢; subst h; exact Rep.nil _ _ _ _
  | .agg xs, v, h => by
    simp only [A.mk1, VSim] at h ⊢
    obtain ⟨vs, h1, h2⟩ := h
    exact ⟨vs, h1, VSimL.mk1 hm hi h2⟩
  | .tup _, _, _ | .fn _ _, _, _ | .ep _ _, _, _ | .ptr _ _, _, _ | .osl _, _, _ | .optr _ _ _ _, _, _ | .opt _ _, _, _ | .any, _, _ => by simp [A.mk1, VSim]
theorem VSimL.mk1 {ok ok' : Nat → Prop} {lo lo' : Nat} {i : Nat} {u : Value} {F : List Nat} (hm : ∀ b, ok b → ok' b) (hi : β[i]? = some (tv u F)) : ∀ {xs : List A} {vs : List Value}, VSimL w ok lo β xs vs → VSimL w ok' lo' [tv u F] (A.mk1L i xs) vs
  | [], [], _ => by simp [A.mk1L, VSimL]
  | x :: xs, v :: vs, h => by
    simp only [A.mk1L, VSimL] at h ⊢
    exact ⟨VSim.mk1 hm hi h.1, VSimL.mk1 hm hi h.2⟩
  | [], _ :: _, h => by simp [VSimL] at h
  | _ :: _, [], h => by simp [VSimL] at h
end

/-- What owns all it holds is read anywhere. -/
def Fresh (w : World) (n : Nat) (b : Nat) : Prop := b < w.heap.size ∧ n ≤ b
mutual
theorem VSim.own1 {ok ok' : Nat → Prop} {n lo : Nat} {β' : List Value} (hok : ∀ b, ok b → b < w.heap.size) (hk : ∀ b, Fresh w n b → ok' b) (hlo : lo ≤ n) :
    ∀ {r : A} {v : Value} {l : List (List (List D))}, A.own1 r = some l → VSim w ok n β r v → VSim w ok' lo β' r v
  | .d o (.int k m), v, l, _, h => by
    have := vint h
    cases o with
    | true => rw [this.1]; exact vsim_int k m this.2.1 this.2.2
    | false => rw [this.1]; exact .int k m this.2.1 this.2.2
  | .d o (.bool b), v, l, _, h => by
    have := vbool h
    cases o with
    | true => rw [this]; exact vsim_bool b
    | false => rw [this]; exact .bool b
  | .d o (.str s), v, l, _, h => by
    have := vstr h
    cases o with
    | true => rw [this.1]; exact vsim_str s this.2
    | false => rw [this.1]; exact .str s this.2
  | .d true (.sl xs), v, l, _, h => by
    simp only [VSim] at h ⊢
    obtain ⟨F, h1, h2, h3⟩ := h
    exact ⟨F, h1, h2, fun b hb => ⟨hk b ⟨hok b (h3 b hb).1, (h3 b hb).2⟩, Nat.le_trans hlo (h3 b hb).2⟩⟩
  | .d false (.sl xs), v, l, hl, h => by simp [A.own1] at hl
  | .nil, v, l, _, h => by simp only [VSim] at h ⊢; exact h
  | .any, v, l, _, h => by simp [VSim]
  | .agg xs, v, l, hl, h => by
    simp only [VSim, A.own1] at h hl ⊢
    obtain ⟨vs, h1, h2⟩ := h
    exact ⟨vs, h1, VSimL.own1 hok hk hlo hl h2⟩
  | .tup xs, v, l, hl, h => by
    simp only [VSim, A.own1] at h hl ⊢
    obtain ⟨vs, h1, h2⟩ := h
    exact ⟨vs, h1, VSimL.own1 hok hk hlo hl h2⟩
  | .fn _ _, _, _, hl, _ | .ep _ _, _, _, hl, _ | .ptr _ _, _, _, hl, _ | .osl _, _, _, hl, _ | .otr _, _, _, hl, _ | .optr _ _ _ _, _, _, hl, _ | .opt _ _, _, _, hl, _ => by simp [A.own1] at hl
theorem VSimL.own1 {ok ok' : Nat → Prop} {n lo : Nat} {β' : List Value} (hok : ∀ b, ok b → b < w.heap.size) (hk : ∀ b, Fresh w n b → ok' b) (hlo : lo ≤ n) :
    ∀ {xs : List A} {vs : List Value} {l : List (List (List D))}, A.own1L xs = some l → VSimL w ok n β xs vs → VSimL w ok' lo β' xs vs
  | [], [], _, _, _ => by simp [VSimL]
  | x :: xs, v :: vs, l, hl, h => by
    simp only [VSimL, A.own1L] at h hl ⊢
    split at hl
    · rename_i l1 l2 h1 h2
      exact ⟨VSim.own1 hok hk hlo h1 h.1, VSimL.own1 hok hk hlo h2 h.2⟩
    · cases hl
  | [], _ :: _, _, _, h => by simp [VSimL] at h
  | _ :: _, [], _, _, h => by simp [VSimL] at h
end
mutual
/-- Without a slice. -/
theorem VSim.own0 {ok ok' : Nat → Prop} {n lo m : Nat} {β' : List Value} : ∀ {r : A} {v : Value}, A.own1 r = some [] → VSim w ok n β r v → VSim w ok' lo β' (r.adp m) v
  | .d o (.int k m'), v, _, h => by
    have := vint h
    cases o with
    | true => rw [this.1]; exact vsim_int k m' this.2.1 this.2.2
    | false => rw [this.1]; exact .int k m' this.2.1 this.2.2
  | .d o (.bool b), v, _, h => by
    have := vbool h
    cases o with
    | true => rw [this]; exact vsim_bool b
    | false => rw [this]; exact .bool b
  | .d o (.str s), v, _, h => by
    have := vstr h
    cases o with
    | true => rw [this.1]; exact vsim_str s this.2
    | false => rw [this.1]; exact .str s this.2
  | .d true (.sl xs), v, hl, h => by simp [A.own1] at hl
  | .d false (.sl xs), v, hl, h => by simp [A.own1] at hl
  | .nil, v, _, h => by simp only [VSim, A.adp] at h ⊢; exact h
  | .any, v, _, h => by simp [VSim, A.adp]
  | .agg xs, v, hl, h => by
    simp only [VSim, A.own1, A.adp] at h hl ⊢
    obtain ⟨vs, h1, h2⟩ := h
    exact ⟨vs, h1, VSimL.own0 hl h2⟩
  | .tup xs, v, hl, h => by
    simp only [VSim, A.own1, A.adp] at h hl ⊢
    obtain ⟨vs, h1, h2⟩ := h
    exact ⟨vs, h1, VSimL.own0 hl h2⟩
  | .fn _ _, _, hl, _ | .ep _ _, _, hl, _ | .ptr _ _, _, hl, _ | .osl _, _, hl, _ | .otr _, _, hl, _ | .optr _ _ _ _, _, hl, _ | .opt _ _, _, hl, _ => by simp [A.own1] at hl
theorem VSimL.own0 {ok ok' : Nat → Prop} {n lo m : Nat} {β' : List Value} : ∀ {xs : List A} {vs : List Value}, A.own1L xs = some [] → VSimL w ok n β xs vs → VSimL w ok' lo β' (A.adpL m xs) vs
  | [], [], _, _ => by simp [A.adpL, VSimL]
  | x :: xs, v :: vs, hl, h => by
    simp only [VSimL, A.own1L, A.adpL] at h hl ⊢
    split at hl
    · rename_i l1 l2 h1 h2
      simp only [Option.some.injEq, List.append_eq_nil_iff] at hl
      obtain ⟨rfl, rfl⟩ := hl
      exact ⟨VSim.own0 h1 h.1, VSimL.own0 h2 h.2⟩
    · cases hl
  | [], _ :: _, _, h => by simp [VSimL] at h
  | _ :: _, [], _, h => by simp [VSimL] at h
end
mutual
/-- With one. -/
theorem VSim.own2 {ok ok' : Nat → Prop} {n lo : Nat} {γ : List Value} : ∀ {r : A} {v : Value} {xs : List (List D)}, A.own1 r = some [xs] → VSim w ok n β r v →
    ∃ u F, OwnL w [u] [.sl xs] F ∧ F.Nodup ∧ (∀ b, b ∈ F → ok b ∧ n ≤ b) ∧ VSim w ok' lo (γ ++ [tv u F]) (r.adp γ.length) v
  | .d true (.sl xs), v, ys, hl, h => by
    simp only [A.own1, Option.some.injEq, List.cons.injEq, and_true] at hl
    subst hl
    have h1 := h.read.one
    simp only [VSim] at h
    obtain ⟨F, h2, h3, h4⟩ := h
    refine ⟨v, F, h2, h3, h4, ?_⟩
    simp only [A.adp, VSim]
    exact ⟨⟨F, by simp⟩, h1⟩
  | .agg xs, v, ys, hl, h => by
    simp only [VSim, A.own1, A.adp] at h hl ⊢
    obtain ⟨vs, h1, h2⟩ := h
    obtain ⟨u, F, g1, g2, g3, g4⟩ := VSimL.own2 (ok' := ok') (lo := lo) (γ := γ) hl h2
    exact ⟨u, F, g1, g2, g3, vs, h1, g4⟩
  | .tup xs, v, ys, hl, h => by
    simp only [VSim, A.own1, A.adp] at h hl ⊢
    obtain ⟨vs, h1, h2⟩ := h
    obtain ⟨u, F, g1, g2, g3, g4⟩ := VSimL.own2 (ok' := ok') (lo := lo) (γ := γ) hl h2
    exact ⟨u, F, g1, g2, g3, vs, h1, g4⟩
  | .d _ (.int _ _), _, _, hl, _ | .d _ (.bool _), _, _, hl, _ | .d _ (.str _), _, _, hl, _ | .d false (.sl _), _, _, hl, _ | .nil, _, _, hl, _ | .any, _, _, hl, _
  | .fn _ _, _, _, hl, _ | .ep _ _, _, _, hl, _ | .ptr _ _, _, _, hl, _ | .osl _, _, _, hl, _ | .otr _, _, _, hl, _ | .optr _ _ _ _, _, _, hl, _ | .opt _ _, _, _, hl, _ => by simp [A.own1] at hl
theorem VSimL.own2 {ok ok' : Nat → Prop} {n lo : Nat} {γ : List Value} : ∀ {rs : List A} {vs : List Value} {xs : List (List D)}, A.own1L rs = some [xs] → VSimL w ok n β rs vs →
    ∃ u F, OwnL w [u] [.sl xs] F ∧ F.Nodup ∧ (∀ b, b ∈ F → ok b ∧ n ≤ b) ∧ VSimL w ok' lo (γ ++ [tv u F]) (A.adpL γ.length rs) vs
  | x :: rs, v :: vs, xs, hl, h => by
    simp only [VSimL, A.own1L, A.adpL] at h hl ⊢
    split at hl
    · rename_i l1 l2 h1 h2
      simp only [Option.some.injEq] at hl
      cases l1 with
      | nil =>
        simp only [List.nil_append] at hl
        subst hl
        obtain ⟨u, F, g1, g2, g3, g4⟩ := VSimL.own2 (ok' := ok') (lo := lo) (γ := γ) h2 h.2
        exact ⟨u, F, g1, g2, g3, VSim.own0 h1 h.1, g4⟩
      | cons y l1 =>
        simp only [List.cons_append, List.cons.injEq, List.append_eq_nil_iff] at hl
        obtain ⟨rfl, rfl, rfl⟩ := hl
        obtain ⟨u, F, g1, g2, g3, g4⟩ := VSim.own2 (ok' := ok') (lo := lo) (γ := γ) h1 h.1
        exact ⟨u, F, g1, g2, g3, g4, VSimL.own0 h2 h.2⟩
    · cases hl
  | [], [], _, hl, _ => by simp [A.own1L] at hl
  | [], _ :: _, _, _, h => by simp [VSimL] at h
  | _ :: _, [], _, _, h => by simp [VSimL] at h
end

theorem A.argL_length : ∀ xs : List A, (A.argL xs).length = xs.length
  | [] => rfl
  | x :: xs => by simp [A.argL, A.argL_length xs]

/-- A call, under its contract. -/
theorem call_ok (S : Sim c σ β a w) {f : FuncId} {As : List A} {r : A} (hc : Ct P f (A.argL As) r) {vs : List Value} (hv : VSimL w (okOf c w σ.h β) c.w0.heap.size β As vs) :
    Calls P f vs.toArray w fun e w' => ∃ v, e = .returned v ∧ Ext w w' ∧ Sim c σ β a w' ∧ VSim w' (okOf c w' σ.h β) c.w0.heap.size β r v ∧ VSim w' (fun b => b < w'.heap.size) w.heap.size [] r v := by
  refine (hc.2 w (okOf c w σ.h β) vs (S.laid hcx) (fun b hb => hb.1) (VSimL.argLo (VSimL.arg hv))).mono ?_
  rintro e w' ⟨v, rfl, hx, hr⟩
  refine ⟨v, rfl, hx, S.ext hx, ?_, hr.move (p := fun _ => true) (fun b hb => ⟨hb.1, rfl⟩) (Nat.le_refl _) (fun _ _ _ h => h) (A.free_true _)⟩
  refine hr.move (p := fun _ => true) (fun b hb => ⟨⟨hb.1, ?_, fun i o' u h1 h2 h3 => ?_⟩, rfl⟩) S.fr.size (fun i u _ h => by simp at h) (A.free_true _)
  · rcases hb.2 with h | h
    · exact h.2.1
    · exact .inr (.inl (Nat.le_trans S.fr.size h))
  · rcases hb.2 with h | h
    · exact h.2.2 i o' u h1 h2 h3
    · have := (S.own i o' u b h1 h2 h3).2
      omega

/-- Behind a call: a state. -/
theorem after_ok {wb : World} {σb : St} (Sb : Sim c σb β a wb) (S : Sim c σ β a w') (hx : Ext wb w') {r : A} {v : Value} (h1 : VSim w' (okOf c w' σ.h β) c.w0.heap.size β r v) (h2 : VSim w' (fun b => b < w'.heap.size) wb.heap.size [] r v)
    {d : Option Nat} {K : St → Prop} (h : after d σb σ r K) : ∃ σ' β' x, K (σ'.putO d x) ∧ Sim c σ' β' a w' ∧ VSim w' (okOf c w' σ'.h β') c.w0.heap.size β' x v ∧ (∀ (i : Nat) (q' : O) (v' : Value) (b : Nat), σ'.h[i]? = some q' → β'[i]? = some v' → b ∈ blkOf q' v' → wb.heap.size ≤ b ∨ ∃ q : O, (σb.h[i]? = some q ∨ σ.h[i]? = some q) ∧ β[i]? = some v' ∧ b ∈ blkOf q v') ∧ β.length ≤ β'.length := by
  have _ := hcx
  have Se := Sb.ext hx
  unfold after at h
  split at h
  · rename_i xs hl
    have hfresh : ∃ u F, OwnL w' [u] [.sl xs] F ∧ F.Nodup ∧ (∀ b, b ∈ F → b < w'.heap.size ∧ wb.heap.size ≤ b) ∧ ∀ (ok' : Nat → Prop), VSim w' ok' c.w0.heap.size (β ++ [tv u F]) (r.adp β.length) v := by
      obtain ⟨u, F, g1, g2, g3, g4⟩ := VSim.own2 (ok' := fun _ => False) (lo := c.w0.heap.size) (γ := β) hl h2
      exact ⟨u, F, g1, g2, g3, fun ok' => g4.move (p := fun _ => true) (fun b hb => hb.elim) (Nat.le_refl _) (fun _ _ _ h => h) (A.free_true _)⟩
    obtain ⟨u, F, g1, g2, g3, g4⟩ := hfresh
    refine ⟨⟨σb.t, σb.h ++ [.tree xs]⟩, β ++ [tv u F], r.adp σb.h.length, h, ?_, ?_, fun i q' v' b k1 k2 k3 => ?_, by simp⟩
    · have hnew := Sb.new (o := .tree xs) (v := tv u F) hx rfl (fun b hb => by
        have hb : b ∈ F := by simpa [blkOf, tvF_tv] using hb
        exact ⟨(g3 b hb).2, (g3 b hb).1⟩) (fun _ => ⟨u, F, rfl, g1, g2, fun b hb => Nat.le_trans Sb.fr.size (g3 b hb).2⟩)
      exact hnew
    · rw [← Sb.len]; exact g4 _
    · rcases get_snoc k1 with k1 | ⟨k1, k1'⟩
      · rcases get_snoc k2 with k2 | ⟨k2, _⟩
        · exact .inr ⟨q', .inl k1, k2, k3⟩
        · have := (List.getElem?_eq_some_iff.1 k1).1
          have := Sb.len
          omega
      · rcases get_snoc k2 with k2 | ⟨_, k2'⟩
        · have := (List.getElem?_eq_some_iff.1 k2).1
          have := Sb.len
          omega
        · subst k1'; subst k2'
          have hb : b ∈ F := by simpa [blkOf, tvF_tv] using k3
          exact .inl (g3 b hb).2
  · rename_i l _ hl
    refine ⟨σb, β, r, h, Se, ?_, fun i q' v' b k1 k2 k3 => .inr ⟨q', .inl k1, k2, k3⟩, Nat.le_refl _⟩
    refine VSim.own1 (ok := fun b => b < w'.heap.size) (β := []) (n := wb.heap.size) (fun b hb => hb) (fun b hb => ⟨hb.1, .inr (.inl (Nat.le_trans Sb.fr.size hb.2)), fun i o' u k1 k2 k3 => ?_⟩) Sb.fr.size hl h2
    have := (Sb.own i o' u b k1 k2 k3).2
    have := hb.2
    omega
  · exact ⟨σ, β, r, h, S, h1, fun i q' v' b k1 k2 k3 => .inr ⟨q', .inr k1, k2, k3⟩, Nat.le_refl _⟩

/-- A call that turns a tree. -/
theorem mcall_ok {σb : St} (S : Sim c σb β a w) {f : FuncId} {Bs : List A} {i : Nat} {xs xs' : List (List D)} {r : A} (ht : treeArg σb Bs = some (i, xs)) (hc : CtM P f (A.mk1L i Bs) xs xs' r) {vs : List Value} (hv : VSimL w (okOf c w σb.h β) c.w0.heap.size β Bs vs) :
    Calls P f vs.toArray w fun e w' => ∃ v, e = .returned v ∧ Sim c ⟨σb.t, σb.h.set i (.tree xs')⟩ β a w' ∧ VSim w' (okOf c w' (σb.h.set i (.tree xs')) β) c.w0.heap.size β r v := by
  have hi : σb.h[i]? = some (.tree xs) := by
    unfold treeArg at ht
    split at ht
    · split at ht
      · rename_i j ys hj
        simp only [Option.some.injEq, Prod.mk.injEq] at ht
        obtain ⟨rfl, rfl⟩ := ht
        exact hj
      · cases ht
    · cases ht
  have hil := (List.getElem?_eq_some_iff.1 hi).1
  obtain ⟨v0, hb0⟩ : ∃ v, β[i]? = some v := ⟨_, List.getElem?_eq_getElem (show i < β.length by rw [S.len]; exact hil)⟩
  obtain ⟨u, F, rfl, t1, t2, t3⟩ := tree_of S hi hb0
  have hblk : ∀ b, b ∈ blkOf (.tree xs) (tv u F) ↔ b ∈ F := fun b => by simp [blkOf, tvF_tv]
  refine (hc.2.2 w (fun b => okOf c w σb.h β b) vs u F (S.laid hcx) (fun b hb => Nat.le_trans (hcx.elim fun h => h.1.1) (t3 b hb)) (fun b hb => ⟨hb.1, fun hF => hb.2.2 i _ _ hi hb0 ((hblk b).2 hF)⟩) (fun b hb => (S.own i _ _ b hi hb0 ((hblk b).2 hb)).2) t1 t2 (VSimL.mk1 (fun b hb => hb) hb0 hv)).mono ?_
  rintro e w' ⟨v, rfl, hx, ho, hr⟩
  refine ⟨v, rfl, ?_, ?_⟩
  · have hset : β.set i (tv u F) = β := set_same hb0
    have := S.change (i := i) (o := .tree xs) (o' := .tree xs') (v := tv u F) (v' := tv u F) (p := fun _ => true) (t := σb.t) (h' := σb.h.set i (.tree xs')) (w' := w') hi hb0 rfl (fun k z _ hk => by rw [hset]; exact hk)
      ⟨hx.os, hx.tape, hx.output, hx.size, fun b hb hne => hx.block b hb (fun hF => hne ((hblk b).2 hF))⟩ (fun b hb => .inl hb) (fun k => .inr ⟨rfl, A.free_true _⟩) (by simp) (by simp [hil])
      (fun k q hk hq => by
        rw [List.getElem?_set_ne (fun e => hk e.symm)] at hq
        exact ⟨q, hq, fun _ => rfl, .inl ⟨rfl, fun cells _ => A.freeL_true _⟩⟩)
      (fun _ => ⟨u, F, rfl, ho, t2, t3⟩)
    rw [hset] at this
    exact this
  · have hs := hc.2.1
    have h0 : A.own1 r = some [] := by
      cases r <;> simp [scalar] at hs
      rename_i o1 x
      cases x <;> simp [A.own1] at hs ⊢
    have hadp : r.adp 0 = r := by
      cases r <;> simp [scalar] at hs
      rename_i o1 x
      cases x <;> cases o1 <;> first | (simp only [A.adp]; done) | (simp at hs; done)
    have := VSim.own0 (ok' := okOf c w' (σb.h.set i (.tree xs')) β) (lo := c.w0.heap.size) (β' := β) (m := 0) h0 hr
    rwa [hadp] at this

theorem run_callFunc {f : FuncId} (h : CtF P f) (vs : Array Value) (w : World) : (callFunc f vs).run P w = .ok (.enter f vs) w := by
  obtain ⟨fn, h1, h2, h3⟩ := h
  have h2' : fn.name ≠ "runtime.NumGoroutine" := by simpa using h2
  have h3' : fn.body ≠ none := by intro h; rw [h] at h3; cases h3
  simp [callFunc, h1, h2', h3']

theorem go_ok (S : Sim c σ β a w) {K : St → Prop} {Q : Exit → Act → World → Prop} {d : Option Nat} (hd : o.dst = d) (hn : ∀ k, d = some k → k < c.n) {mk : Bool} (h : ((toI P o).res σ).go P mk d σ K) : o.wp P a w (SK c K) Q := by
  have hr := res_ok (P := P) S o
  have put : ∀ {σ' : St} {β' : List Value} {w' : World} {x : A} {v : Value}, Sim c σ' β' a w' → VSim w' (okOf c w' σ'.h β') c.w0.heap.size β' x v → Sim c (σ'.putO d x) β' (a.put o.dst v) w' := by
    intro σ' β' w' x v S' hv
    rw [hd]
    cases d with
    | none => exact S'
    | some k => exact S'.put (hn k rfl) hv
  unfold Oper.wp
  cases hres : (toI P o).res σ with
  | bad => rw [hres] at h; exact h.elim
  | val p x =>
    rw [hres] at h hr
    obtain ⟨v, h1, h2⟩ := hr h.1
    rw [h1 w _ (Fr.refl _ _) Away.none]
    exact ⟨_, β, h.2, put S h2⟩
  | st p σ' x =>
    rw [hres] at h hr
    rcases hr h.1 with ⟨v, w', h1, β', S', h2, _⟩ | ⟨w', h1, β', S', h2, _⟩ <;> rw [h1]
    · exact ⟨_, β', h.2, put S' h2⟩
    · exact ⟨_, β', h.2, put S' h2⟩
  | call p σb Bs σ' f As =>
    rw [hres] at h hr
    obtain ⟨vs, h1, Sb, hbs, S', h2, _⟩ := hr h.1
    rcases h.2 with ⟨r, hc, hk⟩ | ⟨_, i, xs, xs', r, ht, hlen, hc, hk⟩
    · rw [h1 w (Fr.refl _ _), run_callFunc hc.1]
      refine (call_ok S' hc h2).mono ?_
      rintro e w' ⟨v, rfl, hx, S2, hv, hv'⟩
      obtain ⟨σ2, β2, x, k1, k2, k3, _, _⟩ := after_ok Sb S2 hx hv hv' hk
      exact ⟨_, β2, k1, put k2 k3⟩
    · rw [h1 w (Fr.refl _ _), run_callFunc hc.1]
      rw [List.take_of_length_le (by rw [hlen, A.argL_length, VSimL.length h2]; exact Nat.le_refl _)] at hbs
      refine (mcall_ok Sb ht hc hbs).mono ?_
      rintro e w' ⟨v, rfl, S2, hv⟩
      exact ⟨_, β, hk, put S2 hv⟩

end
end Go.Proofs.YtdnenindpapniaaDoor.Sym
