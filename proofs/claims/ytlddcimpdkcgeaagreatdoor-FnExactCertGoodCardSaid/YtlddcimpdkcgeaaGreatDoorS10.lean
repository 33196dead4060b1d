/- Code over abstract states; contracts. -/
import Derived.Test.YtlddcimpdkcgeaaGreatDoorS9
set_option linter.unusedVariables false
set_option linter.unusedSimpArgs false
namespace Go.Proofs.YtlddcimpdkcgeaaGreatDoor.Sym
open List (getElem?_cons_succ getElem?_cons_zero)
open Go.RowKit
mutual
def A.Le : A → A → Prop
  | _,.any => True
  | .d o x,.d o' y => (o' = true → o = true) ∧ x = y
  | .nil,.d _ y => y = .sl []
  | .nil,.nil => True
  | .agg xs,.agg ys => A.LeL xs ys
  | .tup xs,.tup ys => A.LeL xs ys
  | .ptr i a,.ptr j b => i = j ∧ a = b
  | .osl i,.osl j => i = j
  | .otr i,.otr j => i = j
  | .ep ds a,.ep ds' b => ds = ds' ∧ a = b
  | .fn f xs,.fn g ys => f = g ∧ A.LeL xs ys
  | .pin i u,.pin j v => i = j ∧ u = v
  | _,_ => False
def A.LeL : List A → List A → Prop
  | [],[] => True
  | x :: xs,y :: ys => A.Le x y ∧ A.LeL xs ys
  | _,_ => False
end
def O.Le : O → O → Prop
  | _,.dead => True
  | .box xs,.box ys => A.LeL xs ys
  | .row q a b xs,.row q' a' b' ys => (q' = true → q = true) ∧ a = a' ∧ b = b' ∧ xs = ys
  | .tree xs,.tree ys => xs = ys
  | _,_ => False
def leH : List O → List O → Prop
  | _,[] => True
  | o :: h,o' :: h' => O.Le o o' ∧ leH h h'
  | [],_ :: _ => False
def leT (σ : St) : List (Nat × A) → Prop
  | [] => True
  | (k,x) :: t => A.Le (lkp σ.t k) x ∧ leT σ t
def freeT (p : Nat → Bool) : List (Nat × A) → Bool
  | [] => true
  | (_,x) :: t => x.free p && freeT p t
def freeH (p : Nat → Bool) : List O → Bool
  | [] => true
  | .box cells :: h => A.freeL p cells && freeH p h
  | _ :: h => freeH p h
def StLe (σ σ' : St) : Prop:=leT σ σ'.t ∧ leH σ.h σ'.h ∧ freeT (fun i => Nat.blt i σ'.h.length) σ'.t = true ∧ freeH (fun i => Nat.blt i σ'.h.length) σ'.h = true
section
variable {P : Program} {c : Cx} {σ : St} {β : List Value} {a : Act} {w w' : World} {o : Oper}
mutual
theorem VSim.le {ok : Nat → Prop} {lo : Nat} : ∀ {x y : A} {v : Value},A.Le x y → VSim w ok lo β x v → VSim w ok lo β y v
  | _,.any,_,_,_ => by simp [VSim]
  | .d o x,.d o' y,v,hl,h => by
    simp only [A.Le] at hl
    obtain ⟨h1,rfl⟩:=hl
    cases o' with
    | true => rw [h1 rfl] at h;exact h
    | false => simp only [VSim];exact h.read
  | .nil,.d o y,v,hl,h => by
    simp only [A.Le] at hl
    subst hl
    simp only [VSim] at h
    subst h
    cases o with
    | true => exact ⟨[],.none _ _ [] [] [] .nil,List.nodup_nil,fun b hb => by cases hb⟩
    | false => simp only [VSim];exact Rep.nil _ _ _ _
  | .nil,.nil,_,_,h => h
  | .agg xs,.agg ys,v,hl,h => by
    simp only [VSim,A.Le] at h hl ⊢
    obtain ⟨vs,h1,h2⟩:=h
    exact ⟨vs,h1,VSimL.le hl h2⟩
  | .tup xs,.tup ys,v,hl,h => by
    simp only [VSim,A.Le] at h hl ⊢
    obtain ⟨vs,h1,h2⟩:=h
    exact ⟨vs,h1,VSimL.le hl h2⟩
  | .ptr i a,.ptr j b,v,hl,h => by simp only [A.Le] at hl;obtain ⟨rfl,rfl⟩:=hl;exact h
  | .pin i a,.pin j b,v,hl,h => by simp only [A.Le] at hl;obtain ⟨rfl,rfl⟩:=hl;exact h
  | .osl i,.osl j,v,hl,h => by simp only [A.Le] at hl;subst hl;exact h
  | .otr i,.otr j,v,hl,h => by simp only [A.Le] at hl;subst hl;exact h
  | .ep ds a,.ep ds' b,v,hl,h => by simp only [A.Le] at hl;obtain ⟨rfl,rfl⟩:=hl;exact h
  | .fn f xs,.fn g ys,v,hl,h => by
    simp only [VSim,A.Le] at h hl ⊢
    obtain ⟨vs,h1,h2⟩:=h
    obtain ⟨rfl,hl⟩:=hl
    exact ⟨vs,h1,VSimL.le hl h2⟩
  | .any,.d _ _,_,hl,_|.any,.ptr _ _,_,hl,_|.any,.osl _,_,hl,_|.any,.optr _ _ _ _,_,hl,_|.any,.ep _ _,_,hl,_|.any,.fn _ _,_,hl,_|.any,.agg _,_,hl,_|.any,.tup _,_,hl,_|.any,.opt _ _,_,hl,_|.any,.nil,_,hl,_ => by simp [A.Le] at hl
  | .d _ _,.ptr _ _,_,hl,_|.d _ _,.osl _,_,hl,_|.d _ _,.optr _ _ _ _,_,hl,_|.d _ _,.ep _ _,_,hl,_|.d _ _,.fn _ _,_,hl,_|.d _ _,.agg _,_,hl,_|.d _ _,.tup _,_,hl,_|.d _ _,.opt _ _,_,hl,_|.d _ _,.nil,_,hl,_ => by simp [A.Le] at hl
  | .ptr _ _,.d _ _,_,hl,_|.ptr _ _,.osl _,_,hl,_|.ptr _ _,.optr _ _ _ _,_,hl,_|.ptr _ _,.ep _ _,_,hl,_|.ptr _ _,.fn _ _,_,hl,_|.ptr _ _,.agg _,_,hl,_|.ptr _ _,.tup _,_,hl,_|.ptr _ _,.opt _ _,_,hl,_|.ptr _ _,.nil,_,hl,_ => by simp [A.Le] at hl
  | .osl _,.d _ _,_,hl,_|.osl _,.ptr _ _,_,hl,_|.osl _,.optr _ _ _ _,_,hl,_|.osl _,.ep _ _,_,hl,_|.osl _,.fn _ _,_,hl,_|.osl _,.agg _,_,hl,_|.osl _,.tup _,_,hl,_|.osl _,.opt _ _,_,hl,_|.osl _,.nil,_,hl,_ => by simp [A.Le] at hl
  | .optr _ _ _ _,.d _ _,_,hl,_|.optr _ _ _ _,.ptr _ _,_,hl,_|.optr _ _ _ _,.osl _,_,hl,_|.optr _ _ _ _,.optr _ _ _ _,_,hl,_|.optr _ _ _ _,.ep _ _,_,hl,_|.optr _ _ _ _,.fn _ _,_,hl,_|.optr _ _ _ _,.agg _,_,hl,_|.optr _ _ _ _,.tup _,_,hl,_|.optr _ _ _ _,.opt _ _,_,hl,_|.optr _ _ _ _,.nil,_,hl,_ => by simp [A.Le] at hl
  | .ep _ _,.d _ _,_,hl,_|.ep _ _,.ptr _ _,_,hl,_|.ep _ _,.osl _,_,hl,_|.ep _ _,.optr _ _ _ _,_,hl,_|.ep _ _,.fn _ _,_,hl,_|.ep _ _,.agg _,_,hl,_|.ep _ _,.tup _,_,hl,_|.ep _ _,.opt _ _,_,hl,_|.ep _ _,.nil,_,hl,_ => by simp [A.Le] at hl
  | .fn _ _,.d _ _,_,hl,_|.fn _ _,.ptr _ _,_,hl,_|.fn _ _,.osl _,_,hl,_|.fn _ _,.optr _ _ _ _,_,hl,_|.fn _ _,.ep _ _,_,hl,_|.fn _ _,.agg _,_,hl,_|.fn _ _,.tup _,_,hl,_|.fn _ _,.opt _ _,_,hl,_|.fn _ _,.nil,_,hl,_ => by simp [A.Le] at hl
  | .agg _,.d _ _,_,hl,_|.agg _,.ptr _ _,_,hl,_|.agg _,.osl _,_,hl,_|.agg _,.optr _ _ _ _,_,hl,_|.agg _,.ep _ _,_,hl,_|.agg _,.fn _ _,_,hl,_|.agg _,.tup _,_,hl,_|.agg _,.opt _ _,_,hl,_|.agg _,.nil,_,hl,_ => by simp [A.Le] at hl
  | .tup _,.d _ _,_,hl,_|.tup _,.ptr _ _,_,hl,_|.tup _,.osl _,_,hl,_|.tup _,.optr _ _ _ _,_,hl,_|.tup _,.ep _ _,_,hl,_|.tup _,.fn _ _,_,hl,_|.tup _,.agg _,_,hl,_|.tup _,.opt _ _,_,hl,_|.tup _,.nil,_,hl,_ => by simp [A.Le] at hl
  | .opt _ _,.d _ _,_,hl,_|.opt _ _,.ptr _ _,_,hl,_|.opt _ _,.osl _,_,hl,_|.opt _ _,.optr _ _ _ _,_,hl,_|.opt _ _,.ep _ _,_,hl,_|.opt _ _,.fn _ _,_,hl,_|.opt _ _,.agg _,_,hl,_|.opt _ _,.tup _,_,hl,_|.opt _ _,.opt _ _,_,hl,_|.opt _ _,.nil,_,hl,_ => by simp [A.Le] at hl
  | .nil,.ptr _ _,_,hl,_|.nil,.osl _,_,hl,_|.nil,.optr _ _ _ _,_,hl,_|.nil,.ep _ _,_,hl,_|.nil,.fn _ _,_,hl,_|.nil,.agg _,_,hl,_|.nil,.tup _,_,hl,_|.nil,.opt _ _,_,hl,_ => by simp [A.Le] at hl
  | .otr _,.d _ _,_,hl,_|.otr _,.ptr _ _,_,hl,_|.otr _,.osl _,_,hl,_|.otr _,.optr _ _ _ _,_,hl,_|.otr _,.ep _ _,_,hl,_|.otr _,.fn _ _,_,hl,_|.otr _,.agg _,_,hl,_|.otr _,.tup _,_,hl,_|.otr _,.opt _ _,_,hl,_|.otr _,.nil,_,hl,_ => by simp [A.Le] at hl
  | .any,.otr _,_,hl,_|.d _ _,.otr _,_,hl,_|.ptr _ _,.otr _,_,hl,_|.osl _,.otr _,_,hl,_|.optr _ _ _ _,.otr _,_,hl,_|.ep _ _,.otr _,_,hl,_|.fn _ _,.otr _,_,hl,_|.agg _,.otr _,_,hl,_|.tup _,.otr _,_,hl,_|.opt _ _,.otr _,_,hl,_|.nil,.otr _,_,hl,_ => by simp [A.Le] at hl
  | .pin _ _,.d _ _,_,hl,_|.pin _ _,.ptr _ _,_,hl,_|.pin _ _,.osl _,_,hl,_|.pin _ _,.otr _,_,hl,_|.pin _ _,.optr _ _ _ _,_,hl,_|.pin _ _,.ep _ _,_,hl,_|.pin _ _,.fn _ _,_,hl,_|.pin _ _,.agg _,_,hl,_|.pin _ _,.tup _,_,hl,_|.pin _ _,.opt _ _,_,hl,_|.pin _ _,.nil,_,hl,_ => by simp [A.Le] at hl
  | .any,.pin _ _,_,hl,_|.d _ _,.pin _ _,_,hl,_|.ptr _ _,.pin _ _,_,hl,_|.osl _,.pin _ _,_,hl,_|.otr _,.pin _ _,_,hl,_|.optr _ _ _ _,.pin _ _,_,hl,_|.ep _ _,.pin _ _,_,hl,_|.fn _ _,.pin _ _,_,hl,_|.agg _,.pin _ _,_,hl,_|.tup _,.pin _ _,_,hl,_|.opt _ _,.pin _ _,_,hl,_|.nil,.pin _ _,_,hl,_ => by simp [A.Le] at hl
theorem VSimL.le {ok : Nat → Prop} {lo : Nat} : ∀ {xs ys : List A} {vs : List Value},A.LeL xs ys → VSimL w ok lo β xs vs → VSimL w ok lo β ys vs
  | [],[],_,_,h => h
  | x :: xs,y :: ys,v :: vs,hl,h => by
    simp only [VSimL,A.LeL] at h hl ⊢
    exact ⟨VSim.le hl.1 h.1,VSimL.le hl.2 h.2⟩
  | _ :: _,_ :: _,[],_,h => by simp [VSimL] at h
  | [],_ :: _,_,hl,_ => by simp [A.LeL] at hl
  | _ :: _,[],_,hl,_ => by simp [A.LeL] at hl
end
theorem O.le_blk {q q' : O} (h : O.Le q q') (v : Value) (b : Nat) : b ∈ blkOf q' v → b ∈ blkOf q v:=by
  cases q' with
  | dead => intro h';simp [blkOf] at h'
  | box cells =>
    cases q <;> simp only [O.Le] at h
    intro h'
    cases v <;> first|exact h'|(rename_i x;cases x <;> exact h')
  | row a0 a1 a2 a3 =>
    cases q <;> simp only [O.Le] at h
    exact fun h' => h'
  | tree xs =>
    cases q <;> simp only [O.Le] at h
    exact fun h' => h'
theorem leH_get : ∀ {h h' : List O},leH h h' → ∀ {i : Nat} {q' : O},h'[i]? = some q' → ∃ q,h[i]? = some q ∧ O.Le q q'
  | _,[],_,i,q',hq => by simp at hq
  | o :: h,o' :: h',hl,0,q',hq => by
    simp only [getElem?_cons_zero,Option.some.injEq] at hq ⊢
    subst hq
    exact ⟨o,rfl,hl.1⟩
  | o :: h,o' :: h',hl,i + 1,q',hq => by
    simp only [getElem?_cons_succ] at hq ⊢
    exact leH_get hl.2 hq
  | [],_ :: _,hl,_,_,_ => hl.elim
theorem leH_len : ∀ {h h' : List O},leH h h' → h'.length ≤ h.length
  | _,[],_ => Nat.zero_le _
  | o :: h,o' :: h',hl => by have:=leH_len hl.2;simp;omega
  | [],_ :: _,hl => hl.elim
theorem leT_lkp : ∀ {t : List (Nat × A)},leT σ t → ∀ (p : Nat → Bool),freeT p t = true → ∀ j,A.Le (lkp σ.t j) (lkp t j) ∧ (lkp t j).free p = true
  | [],_,_,_,_ => ⟨by simp [lkp,A.Le],rfl⟩
  | (k,x) :: t,h,p,hf,j => by
    simp only [freeT,Bool.and_eq_true] at hf
    simp only [lkp]
    by_cases hk : k = j
    · subst hk;rw [Nat.beq_refl];exact ⟨h.1,hf.1⟩
    · rw [beq_no hk];exact leT_lkp h.2 p hf.2 j
theorem freeH_get (p : Nat → Bool) : ∀ {h : List O},freeH p h = true → ∀ {i : Nat} {cells : List A},h[i]? = some (.box cells) → A.freeL p cells = true
  | [],_,i,cells,hi => by simp at hi
  | .box cs :: h,hf,0,cells,hi => by
    simp only [freeH,Bool.and_eq_true] at hf
    simp only [getElem?_cons_zero,Option.some.injEq,O.box.injEq] at hi
    subst hi;exact hf.1
  | .box cs :: h,hf,i + 1,cells,hi => by
    simp only [freeH,Bool.and_eq_true] at hf
    simp only [getElem?_cons_succ] at hi
    exact freeH_get p hf.2 hi
  | .row _ _ _ _ :: h,hf,0,cells,hi => by simp at hi
  | .row _ _ _ _ :: h,hf,i + 1,cells,hi => by
    simp only [freeH] at hf
    simp only [getElem?_cons_succ] at hi
    exact freeH_get p hf hi
  | .tree _ :: h,hf,0,cells,hi => by simp at hi
  | .tree _ :: h,hf,i + 1,cells,hi => by
    simp only [freeH] at hf
    simp only [getElem?_cons_succ] at hi
    exact freeH_get p hf hi
  | .dead :: h,hf,0,cells,hi => by simp at hi
  | .dead :: h,hf,i + 1,cells,hi => by
    simp only [freeH] at hf
    simp only [getElem?_cons_succ] at hi
    exact freeH_get p hf hi
theorem Sim.le {σ' : St} (S : Sim c σ β a w) (h : StLe σ σ') : Sim c σ' (β.take σ'.h.length) a w:=by
  obtain ⟨ht,hh,hf,hfh⟩:=h
  have get : ∀ {i : Nat} {x : Value},(β.take σ'.h.length)[i]? = some x → i < σ'.h.length ∧ β[i]? = some x:=by
    intro i x h
    rw [List.getElem?_take] at h
    split at h
    · exact ⟨by assumption,h⟩
    · cases h
  have hβ : ∀ i u,(fun i => Nat.blt i σ'.h.length) i = true → β[i]? = some u → (β.take σ'.h.length)[i]? = some u:=fun i u hi hu => by
    rw [List.getElem?_take,if_pos (by simpa using hi)];exact hu
  have hm : ∀ b,okOf c w σ.h β b → okOf c w σ'.h (β.take σ'.h.length) b ∧ w.heap[b]? = w.heap[b]?:=by
    intro b hk
    refine ⟨⟨hk.1,hk.2.1,fun i q u h1 h2 h3 => ?_⟩,rfl⟩
    obtain ⟨q0,g1,g2⟩:=leH_get hh h1
    exact hk.2.2 i q0 u g1 (get h2).2 (O.le_blk g2 u b h3)
  refine ⟨S.defers,S.size,S.fr,by have:=leH_len hh;simp [S.len];omega,fun i v h => S.vone i v (get h).2,fun i q u h1 h2 => ?_,fun i q u b h1 h2 h3 => ?_,fun i j q q1 u u1 b hij h1 h2 h3 h4 h5 h6 => ?_,fun j => ?_⟩
  · obtain ⟨q0,g1,g2⟩:=leH_get hh h1
    have ho:=S.obj i q0 u g1 (get h2).2
    cases q with
    | dead => trivial
    | row ow e1 e2 xs =>
      cases q0 <;> simp only [O.Le] at g2
      obtain ⟨g0,rfl,rfl,rfl⟩:=g2
      obtain ⟨inner,k1,k2,k3,k4,k5⟩:=ho
      refine ⟨inner,k1,k2,k3,k4.move hm,fun ho => ?_⟩
      obtain ⟨m0,F,m1,m2,m3⟩:=k5 (g0 ho)
      exact ⟨m0,F,m1,m2,fun b hb => ⟨(hm b (m3 b hb).1).1,(m3 b hb).2⟩⟩
    | tree xs =>
      cases q0 <;> simp only [O.Le] at g2
      subst g2
      exact ho
    | box cells =>
      cases q0 <;> simp only [O.Le] at g2
      obtain ⟨b,vs,ty,k0,k1,k2⟩:=ho
      refine ⟨b,vs,ty,k0,k1,?_⟩
      exact (VSimL.le g2 k2).move (p:=fun i => Nat.blt i σ'.h.length) hm (Nat.le_refl _) hβ (freeH_get _ hfh h1)
  · obtain ⟨q0,g1,g2⟩:=leH_get hh h1
    exact S.own i q0 u b g1 (get h2).2 (O.le_blk g2 u b h3)
  · obtain ⟨q0,g1,g2⟩:=leH_get hh h1
    obtain ⟨q2,g3,g4⟩:=leH_get hh h3
    exact S.sep i j q0 q2 u u1 b hij g1 (get h2).2 g3 (get h4).2 (O.le_blk g2 u b h5) (O.le_blk g4 u1 b h6)
  · have:=leT_lkp ht (fun i => Nat.blt i σ'.h.length) hf j
    exact (VSim.le this.1 (S.tmp j)).move (p:=fun i => Nat.blt i σ'.h.length) hm (Nat.le_refl _) hβ this.2
end
mutual
def A.arg : A → A
  | .d _ x => .d false x
  | .nil => .d false (.sl [])
  | .fn f xs => .fn f (A.argL xs)
  | .agg xs => .agg (A.argL xs)
  | .tup xs => .tup (A.argL xs)
  | .ep ds off => .ep ds off
  | .ptr _ _ => .any
  | .osl _ => .any
  | .otr _ => .any
  | .optr _ _ _ _ => .any
  | .opt _ _ => .any
  | .any => .any
  | .pin _ _ => .any
def A.argL : List A → List A
  | [] => []
  | x :: xs => A.arg x :: A.argL xs
end
def Ext (w w' : World) : Prop:=Fr (fun _ => False) w w'
def CtF (P : Program) (f : FuncId) : Prop := ∃ fn, P.funcs[f]? = some fn ∧ (fn.name == "runtime.NumGoroutine") = false ∧ fn.body.isNone = false
def Ct (P : Program) (f : FuncId) (As : List A) (r : A) : Prop :=
  CtF P f ∧ ∀ (w : World) (ok : Nat → Prop) (vs : List Value),Laid w → (∀ b,ok b → b < w.heap.size) → VSimL w ok w.heap.size [] As vs →
    Calls P f vs.toArray w fun e w' => ∃ v,e = .returned v ∧ Ext w w' ∧ VSim w' (fun b => b < w'.heap.size ∧ (ok b ∨ w.heap.size ≤ b)) w.heap.size [] r v
mutual
def A.own1 : A → Option (List (List (List D)))
  | .d _ (.int _ _) => some []
  | .d _ (.bool _) => some []
  | .d _ (.str _) => some []
  | .d true (.sl xs) => some [xs]
  | .nil => some []
  | .any => some []
  | .agg xs => A.own1L xs
  | .tup xs => A.own1L xs
  | _ => none
def A.own1L : List A → Option (List (List (List D)))
  | [] => some []
  | x :: xs => match A.own1 x,A.own1L xs with|some l,some l' => some (l ++ l')|_,_ => none
end
mutual
def A.adp (n : Nat) : A → A
  | .d true (.sl _) => .otr n
  | .agg xs => .agg (A.adpL n xs)
  | .tup xs => .tup (A.adpL n xs)
  | x => x
def A.adpL (n : Nat) : List A → List A
  | [] => []
  | x :: xs => A.adp n x :: A.adpL n xs
end
def St.putO (σ : St) : Option Nat → A → St
  | none,_ => σ
  | some d,x => σ.put d x
def after (d : Option Nat) (σb σ : St) (r : A) (K : St → Prop) : Prop :=
  match A.own1 r with
  | some [xs] => K (St.putO ⟨σb.t,σb.h ++ [.tree xs]⟩ d (r.adp σb.h.length))
  | some _ => K (σb.putO d r)
  | none => K (σ.putO d r)
mutual
def A.mk1 (i : Nat) : A → A
  | .otr j => bif Nat.beq i j then .otr 0 else .any
  | .d _ x => .d false x
  | .nil => .d false (.sl [])
  | .agg xs => .agg (A.mk1L i xs)
  | _ => .any
def A.mk1L (i : Nat) : List A → List A
  | [] => []
  | x :: xs => A.mk1 i x :: A.mk1L i xs
end
def scalar : A → Bool
  | .d _ (.int _ _) => true
  | .d _ (.bool _) => true
  | .d _ (.str _) => true
  | _ => false
def CtM (P : Program) (f : FuncId) (As : List A) (xs xs' : List (List D)) (r : A) : Prop :=
  CtF P f ∧ scalar r = true ∧ ∀ (w : World) (ok : Nat → Prop) (vs : List Value) (u : Value) (F : List Nat),Laid w → (∀ b,b ∈ F → lowB ≤ b) → (∀ b,ok b → b < w.heap.size ∧ b ∉ F) → (∀ b,b ∈ F → b < w.heap.size) → OwnL w [u] [.sl xs] F → F.Nodup →
    VSimL w ok w.heap.size [tv u F] As vs →
    Calls P f vs.toArray w fun e w' => ∃ v,e = .returned v ∧ Fr (fun b => b ∈ F) w w' ∧ OwnL w' [u] [.sl xs'] F ∧ VSim w' (fun _ => False) 0 [] r v
def treeArg (σ : St) (Bs : List A) : Option (Nat × List (List D)) :=
  match tids Bs with
  | [i] => match σ.h[i]? with|some (.tree xs) => some (i,xs)|_ => none
  | _ => none
section
variable {w : World} {β : List Value}
def idxL : List Nat → Nat → Nat → Option Nat
  | [],_,_ => none
  | j :: r,k,i => bif Nat.beq j i then some k else idxL r (k + 1) i
theorem idxL_get {i k : Nat} : ∀ {ix : List Nat} {n : Nat},idxL ix n i = some k → n ≤ k ∧ ix[k - n]? = some i
  | [],n,h => by simp [idxL] at h
  | j :: r,n,h => by
    simp only [idxL] at h
    cases hj : Nat.beq j i with
    | true =>
      rw [hj] at h
      simp only [cond_true,Option.some.injEq] at h
      subst h
      rw [Nat.eq_of_beq_eq_true hj]
      simp
    | false =>
      rw [hj] at h
      have:=idxL_get (ix:=r) (n:=n + 1) h
      refine ⟨by omega,?_⟩
      rw [show k - n = (k - (n + 1)) + 1 by omega,getElem?_cons_succ]
      exact this.2
mutual
def A.em (ix : List Nat) : A → A
  | .ptr i off => match idxL ix 0 i with|some k => .ptr k off|none => .any
  | .osl i => match idxL ix 0 i with|some k => .osl k|none => .any
  | .otr i => match idxL ix 0 i with|some k => .otr k|none => .any
  | .d _ x => .d false x
  | .nil => .d false (.sl [])
  | .ep ds off => .ep ds off
  | .fn f xs => .fn f (A.emL ix xs)
  | .agg xs => .agg (A.emL ix xs)
  | .tup xs => .tup (A.emL ix xs)
  | .optr _ _ _ _ => .any
  | .opt _ _ => .any
  | .pin _ _ => .any
  | .any => .any
def A.emL (ix : List Nat) : List A → List A
  | [] => []
  | x :: xs => A.em ix x :: A.emL ix xs
end
mutual
def A.ren (ρ : Nat → Nat) : A → A
  | .ptr i off => .ptr (ρ i) off
  | .osl i => .osl (ρ i)
  | .otr i => .otr (ρ i)
  | .optr i j e off => .optr (ρ i) j e off
  | .pin i u => .pin (ρ i) u
  | .d o x => .d o x
  | .nil => .nil
  | .ep ds off => .ep ds off
  | .fn f xs => .fn f (A.renL ρ xs)
  | .agg xs => .agg (A.renL ρ xs)
  | .tup xs => .tup (A.renL ρ xs)
  | .opt g x => .opt g (A.ren ρ x)
  | .any => .any
def A.renL (ρ : Nat → Nat) : List A → List A
  | [] => []
  | x :: xs => A.ren ρ x :: A.renL ρ xs
end
mutual
theorem VSim.em {ok ok' : Nat → Prop} {lo lo' : Nat} {ix : List Nat} {β0 : List Value} (hm : ∀ b,ok b → ok' b) (hβ : ∀ i k u,idxL ix 0 i = some k → β[i]? = some u → β0[k]? = some u) : ∀ {x : A} {v : Value},VSim w ok lo β x v → VSim w ok' lo' β0 (A.em ix x) v
  | .ptr i off,v,h => by
    simp only [A.em]
    split
    · rename_i k hk
      simp only [VSim] at h ⊢
      obtain ⟨b,h1,h2⟩:=h
      exact ⟨b,hβ i k _ hk h1,h2⟩
    · simp [VSim]
  | .osl i,v,h => by
    simp only [A.em]
    split
    · rename_i k hk
      simp only [VSim] at h ⊢
      exact hβ i k _ hk h
    · simp [VSim]
  | .otr i,v,h => by
    simp only [A.em]
    split
    · rename_i k hk
      simp only [VSim] at h ⊢
      obtain ⟨⟨F,h1⟩,h2⟩:=h
      exact ⟨⟨F,hβ i k _ hk h1⟩,h2⟩
    · simp [VSim]
  | .d o x,v,h => by
    simp only [A.em,VSim]
    exact h.read.move (fun b hb => ⟨hm b hb,rfl⟩)
  | .nil,v,h => by
    simp only [A.em,VSim] at h ⊢
    subst h;exact Rep.nil _ _ _ _
  | .ep ds off,v,h => by
    simp only [A.em,VSim] at h ⊢
    obtain ⟨b,o,us,h1,h2,h3,h4⟩:=h
    exact ⟨b,o,us,h1,hm b h2,h3,h4.move (fun b hb => ⟨hm b hb,rfl⟩)⟩
  | .fn f xs,v,h => by
    simp only [A.em,VSim] at h ⊢
    obtain ⟨vs,h1,h2⟩:=h
    exact ⟨vs,h1,VSimL.em hm hβ h2⟩
  | .agg xs,v,h => by
    simp only [A.em,VSim] at h ⊢
    obtain ⟨vs,h1,h2⟩:=h
    exact ⟨vs,h1,VSimL.em hm hβ h2⟩
  | .tup xs,v,h => by
    simp only [A.em,VSim] at h ⊢
    obtain ⟨vs,h1,h2⟩:=h
    exact ⟨vs,h1,VSimL.em hm hβ h2⟩
  | .optr _ _ _ _,_,_|.opt _ _,_,_|.pin _ _,_,_|.any,_,_ => by simp [A.em,VSim]
theorem VSimL.em {ok ok' : Nat → Prop} {lo lo' : Nat} {ix : List Nat} {β0 : List Value} (hm : ∀ b,ok b → ok' b) (hβ : ∀ i k u,idxL ix 0 i = some k → β[i]? = some u → β0[k]? = some u) : ∀ {xs : List A} {vs : List Value},VSimL w ok lo β xs vs → VSimL w ok' lo' β0 (A.emL ix xs) vs
  | [],[],_ => by simp [A.emL,VSimL]
  | x :: xs,v :: vs,h => by
    simp only [A.emL,VSimL] at h ⊢
    exact ⟨VSim.em hm hβ h.1,VSimL.em hm hβ h.2⟩
  | [],_ :: _,h => by simp [VSimL] at h
  | _ :: _,[],h => by simp [VSimL] at h
end
mutual
theorem VSim.ren {ok ok' : Nat → Prop} {lo : Nat} {ρ : Nat → Nat} {β' : List Value} (hm : ∀ b,ok b → ok' b) (hβ : ∀ k u,β[k]? = some u → β'[ρ k]? = some u) : ∀ {x : A} {v : Value},VSim w ok lo β x v → VSim w ok' lo β' (A.ren ρ x) v
  | .ptr i off,v,h => by
    simp only [A.ren,VSim] at h ⊢
    obtain ⟨b,h1,h2⟩:=h
    exact ⟨b,hβ i _ h1,h2⟩
  | .osl i,v,h => by simp only [A.ren,VSim] at h ⊢;exact hβ i _ h
  | .otr i,v,h => by
    simp only [A.ren,VSim] at h ⊢
    obtain ⟨⟨F,h1⟩,h2⟩:=h
    exact ⟨⟨F,hβ i _ h1⟩,h2⟩
  | .optr i j e off,v,h => by
    simp only [A.ren,VSim] at h ⊢
    obtain ⟨b,n,c,h1,h2⟩:=h
    exact ⟨b,n,c,hβ i _ h1,h2⟩
  | .pin i u,v,h => by simp only [A.ren,VSim] at h ⊢;exact hβ i _ h
  | .d o x,v,h => by
    simp only [A.ren]
    exact h.move (β':=β') (p:=fun _ => false) (fun b hb => ⟨hm b hb,rfl⟩) (Nat.le_refl _) (fun _ _ h _ => by cases h) rfl
  | .nil,v,h => by simp only [A.ren,VSim] at h ⊢;exact h
  | .ep ds off,v,h => by
    simp only [A.ren]
    exact h.move (β':=β') (p:=fun _ => false) (fun b hb => ⟨hm b hb,rfl⟩) (Nat.le_refl _) (fun _ _ h _ => by cases h) rfl
  | .fn f xs,v,h => by
    simp only [A.ren,VSim] at h ⊢
    obtain ⟨vs,h1,h2⟩:=h
    exact ⟨vs,h1,VSimL.ren hm hβ h2⟩
  | .agg xs,v,h => by
    simp only [A.ren,VSim] at h ⊢
    obtain ⟨vs,h1,h2⟩:=h
    exact ⟨vs,h1,VSimL.ren hm hβ h2⟩
  | .tup xs,v,h => by
    simp only [A.ren,VSim] at h ⊢
    obtain ⟨vs,h1,h2⟩:=h
    exact ⟨vs,h1,VSimL.ren hm hβ h2⟩
  | .opt g x,v,h => by
    simp only [A.ren,VSim] at h ⊢
    exact ⟨fun hg => VSim.ren hm hβ (h.1 hg),h.2⟩
  | .any,v,h => by simp [A.ren,VSim]
theorem VSimL.ren {ok ok' : Nat → Prop} {lo : Nat} {ρ : Nat → Nat} {β' : List Value} (hm : ∀ b,ok b → ok' b) (hβ : ∀ k u,β[k]? = some u → β'[ρ k]? = some u) : ∀ {xs : List A} {vs : List Value},VSimL w ok lo β xs vs → VSimL w ok' lo β' (A.renL ρ xs) vs
  | [],[],_ => by simp [A.renL,VSimL]
  | x :: xs,v :: vs,h => by
    simp only [A.renL,VSimL] at h ⊢
    exact ⟨VSim.ren hm hβ h.1,VSimL.ren hm hβ h.2⟩
  | [],_ :: _,h => by simp [VSimL] at h
  | _ :: _,[],h => by simp [VSimL] at h
end
def A.emC (ix : List Nat) : A → A
  | .nil => .nil
  | x => A.em ix x
def A.emCL (ix : List Nat) : List A → List A
  | [] => []
  | x :: xs => A.emC ix x :: A.emCL ix xs
def O.em (ix : List Nat) : O → O
  | .box cells => .box (A.emCL ix cells)
  | .row own ety e xs => .row own ety e xs
  | .tree xs => .tree xs
  | .dead => .dead
def O.ren (ρ : Nat → Nat) : O → O
  | .box cells => .box (A.renL ρ cells)
  | .row own ety e xs => .row own ety e xs
  | .tree xs => .tree xs
  | .dead => .dead
def renH (ρ : Nat → Nat) : List O → List O
  | [] => []
  | o :: h => o.ren ρ :: renH ρ h
theorem renH_get (ρ : Nat → Nat) : ∀ (h : List O) (k : Nat),(renH ρ h)[k]? = (h[k]?).map (O.ren ρ)
  | [],_ => by simp [renH]
  | _ :: _,0 => by simp [renH]
  | _ :: h,k + 1 => by simp [renH,renH_get ρ h k]
theorem renH_len (ρ : Nat → Nat) : ∀ h : List O,(renH ρ h).length = h.length
  | [] => rfl
  | _ :: h => by simp [renH,renH_len ρ h]
def emH (ix : List Nat) (h : List O) : List Nat → Option (List O)
  | [] => some []
  | i :: r => match h[i]?,emH ix h r with|some o,some l => some (o.em ix :: l)|_,_ => none
theorem emH_get {ix : List Nat} {h : List O} : ∀ {r : List Nat} {l : List O},emH ix h r = some l → l.length = r.length ∧ ∀ (k i : Nat),r[k]? = some i → ∃ o,h[i]? = some o ∧ l[k]? = some (o.em ix)
  | [],l,hl => by
    simp only [emH,Option.some.injEq] at hl
    subst hl
    exact ⟨rfl,fun k i hk => by simp at hk⟩
  | i :: r,l,hl => by
    simp only [emH] at hl
    split at hl
    · rename_i o l' h1 h2
      simp only [Option.some.injEq] at hl
      subst hl
      have:=emH_get h2
      refine ⟨by simp [this.1],fun k j hk => ?_⟩
      cases k with
      | zero =>
        simp only [getElem?_cons_zero,Option.some.injEq] at hk ⊢
        subst hk
        exact ⟨o,h1,rfl⟩
      | succ k =>
        simp only [getElem?_cons_succ] at hk ⊢
        exact this.2 k j hk
    · cases hl
theorem VSim.emC {w : World} {β : List Value} {ok ok' : Nat → Prop} {lo lo' : Nat} {ix : List Nat} {β0 : List Value} (hm : ∀ b,ok b → ok' b) (hβ : ∀ i k u,idxL ix 0 i = some k → β[i]? = some u → β0[k]? = some u) {x : A} {v : Value} (h : VSim w ok lo β x v) : VSim w ok' lo' β0 (A.emC ix x) v:=by
  cases x with
  | nil => simp only [A.emC,VSim] at h ⊢;exact h
  | _ => exact VSim.em hm hβ h
theorem VSimL.emC {w : World} {β : List Value} {ok ok' : Nat → Prop} {lo lo' : Nat} {ix : List Nat} {β0 : List Value} (hm : ∀ b,ok b → ok' b) (hβ : ∀ i k u,idxL ix 0 i = some k → β[i]? = some u → β0[k]? = some u) : ∀ {xs : List A} {vs : List Value},VSimL w ok lo β xs vs → VSimL w ok' lo' β0 (A.emCL ix xs) vs
  | [],[],_ => by simp [A.emCL,VSimL]
  | x :: xs,v :: vs,h => by
    simp only [A.emCL,VSimL] at h ⊢
    exact ⟨VSim.emC hm hβ h.1,VSimL.emC hm hβ h.2⟩
  | [],_ :: _,h => by simp [VSimL] at h
  | _ :: _,[],h => by simp [VSimL] at h
theorem blk_em (ix : List Nat) (o : O) (v : Value) : blkOf (o.em ix) v = blkOf o v:=by cases o <;> cases v <;> first|rfl|(rename_i a;cases a <;> rfl)
theorem blk_ren (ρ : Nat → Nat) (o : O) (v : Value) : blkOf (o.ren ρ) v = blkOf o v:=by cases o <;> cases v <;> first|rfl|(rename_i a;cases a <;> rfl)
def Bl (h : List O) (β : List Value) (b : Nat) : Prop:=∃ (i : Nat) (o : O) (v : Value),h[i]? = some o ∧ β[i]? = some v ∧ b ∈ blkOf o v
structure HS (w : World) (ok : Nat → Prop) (lo : Nat) (h : List O) (β : List Value) : Prop where
  len : β.length = h.length
  vone : ∀ (i : Nat) (v : Value),β[i]? = some v → v.oneCell' = true
  obj : ∀ (i : Nat) (o : O) (v : Value),h[i]? = some o → β[i]? = some v → OSim w ok lo β o v
  lt : ∀ b,Bl h β b → b < w.heap.size
  sep : ∀ (i j : Nat) (o o' : O) (v v' : Value) (b : Nat),i ≠ j → h[i]? = some o → β[i]? = some v → h[j]? = some o' → β[j]? = some v' → b ∈ blkOf o v → b ∉ blkOf o' v'
def okH (w : World) (ok : Nat → Prop) (Hs : List O) (βs : List Value) (w' : World) (h' : List O) (βs' : List Value) (b : Nat) : Prop :=
  b < w'.heap.size ∧ (ok b ∨ w.heap.size ≤ b ∨ Bl Hs βs b) ∧ ∀ (i : Nat) (o : O) (v : Value),h'[i]? = some o → βs'[i]? = some v → b ∉ blkOf o v
def CtH (P : Program) (f : FuncId) (As : List A) (Hs : List O) (Q : A → List O → Prop) : Prop :=
  CtF P f ∧ ∀ (w : World) (ok : Nat → Prop) (lo : Nat) (vs βs : List Value),Laid w → lo ≤ w.heap.size → lowB ≤ lo → HS w ok lo Hs βs → (∀ b,ok b → b < w.heap.size ∧ ¬ Bl Hs βs b) → (∀ b,Bl Hs βs b → lowB ≤ b) → VSimL w ok lo βs As vs →
    Calls P f vs.toArray w fun e w' => ∃ (v : Value) (r : A) (h' : List O) (βs' : List Value),e = .returned v ∧ Q r h' ∧ Hs.length ≤ h'.length ∧ Fr (Bl Hs βs) w w' ∧ HS w' (okH w ok Hs βs w' h' βs') lo h' βs' ∧
      (∀ (k : Nat) (cells : List A),Hs[k]? = some (.box cells) → βs'[k]? = βs[k]?) ∧ (∀ b,Bl h' βs' b → Bl Hs βs b ∨ w.heap.size ≤ b) ∧ VSim w' (okH w ok Hs βs w' h' βs') lo βs' r v
def ksOf (h : List O) : List Nat → List Nat
  | [] => []
  | i :: r => match h[i]? with|some (.box _) => ksOf h r|_ => i :: ksOf h r
def inN : List Nat → Nat → Bool
  | [],_ => false
  | k :: r,i => Nat.beq k i || inN r i
theorem ksOf_box {h : List O} {i : Nat} : ∀ {l : List Nat},i ∈ l → inN (ksOf h l) i = false → ∃ cells,h[i]? = some (.box cells)
  | [],hi,_ => by cases hi
  | k :: l,hi,hk => by
    simp only [ksOf] at hk
    split at hk
    · rename_i cells hb
      rcases List.mem_cons.1 hi with rfl|hi
      · exact ⟨cells,hb⟩
      · exact ksOf_box hi hk
    · simp only [inN,Bool.or_eq_false_iff] at hk
      rcases List.mem_cons.1 hi with rfl|hi
      · rw [Nat.beq_refl] at hk;cases hk.1
      · exact ksOf_box hi hk.2
def A.killS (ks : List Nat) (x : A) : A:=bif x.free (fun i => !inN ks i) then x else .any
def killSL (ks : List Nat) : List A → List A
  | [] => []
  | x :: xs => A.killS ks x :: killSL ks xs
def killST (ks : List Nat) : List (Nat × A) → List (Nat × A)
  | [] => []
  | (k,x) :: t => (k,A.killS ks x) :: killST ks t
def O.killS (ks : List Nat) : O → O
  | .box cells => .box (killSL ks cells)
  | .row own ety e xs => .row own ety e xs
  | .tree xs => .tree xs
  | .dead => .dead
def killSH (ks : List Nat) : List O → List O
  | [] => []
  | o :: h => o.killS ks :: killSH ks h
theorem killSH_get (ks : List Nat) : ∀ (h : List O) (k : Nat),(killSH ks h)[k]? = (h[k]?).map (O.killS ks)
  | [],_ => by simp [killSH]
  | _ :: _,0 => by simp [killSH]
  | _ :: h,k + 1 => by simp [killSH,killSH_get ks h k]
theorem killSH_len (ks : List Nat) : ∀ h : List O,(killSH ks h).length = h.length
  | [] => rfl
  | _ :: h => by simp [killSH,killSH_len ks h]
theorem lkp_killST (ks : List Nat) (j : Nat) : ∀ t : List (Nat × A),lkp (killST ks t) j = A.killS ks (lkp t j)
  | [] => rfl
  | (k,x) :: t => by
    simp only [killST,lkp]
    cases Nat.beq k j with
    | true => rfl
    | false => exact lkp_killST ks j t
theorem blk_killS (ks : List Nat) (o : O) (v : Value) : blkOf (o.killS ks) v = blkOf o v:=by cases o <;> cases v <;> first|rfl|(rename_i a;cases a <;> rfl)
theorem VSim.killS {w w' : World} {ok ok' : Nat → Prop} {lo : Nat} {β β' : List Value} {ks : List Nat} (hm : ∀ b,ok b → ok' b ∧ w'.heap[b]? = w.heap[b]?) (hβ : ∀ i u,inN ks i = false → β[i]? = some u → β'[i]? = some u) {x : A} {v : Value} (h : VSim w ok lo β x v) : VSim w' ok' lo β' (A.killS ks x) v:=by
  unfold A.killS
  cases hf : x.free (fun i => !inN ks i) with
  | true => exact h.move (p:=fun i => !inN ks i) hm (Nat.le_refl _) (fun i u hp => hβ i u (by simpa using hp)) hf
  | false => simp [VSim]
theorem VSimL.killS {w w' : World} {ok ok' : Nat → Prop} {lo : Nat} {β β' : List Value} {ks : List Nat} (hm : ∀ b,ok b → ok' b ∧ w'.heap[b]? = w.heap[b]?) (hβ : ∀ i u,inN ks i = false → β[i]? = some u → β'[i]? = some u) : ∀ {xs : List A} {vs : List Value},VSimL w ok lo β xs vs → VSimL w' ok' lo β' (killSL ks xs) vs
  | [],[],_ => by simp [killSL,VSimL]
  | x :: xs,v :: vs,h => by
    simp only [killSL,VSimL] at h ⊢
    exact ⟨h.1.killS hm hβ,VSimL.killS hm hβ h.2⟩
  | [],_ :: _,h => by simp [VSimL] at h
  | _ :: _,[],h => by simp [VSimL] at h
def putAt {α : Type} : List α → List Nat → List α → List α
  | l,i :: ix,x :: xs => putAt (l.set i x) ix xs
  | l,[],xs => l ++ xs
  | l,_ :: _,[] => l
def posL (n : Nat) (ix : List Nat) (k : Nat) : Nat:=match ix[k]? with|some i => i|none => n + (k - ix.length)
theorem putAt_len {α : Type} : ∀ (ix : List Nat) (l xs : List α),ix.length ≤ xs.length → (putAt l ix xs).length = l.length + (xs.length - ix.length)
  | [],l,xs,_ => by cases xs <;> simp [putAt]
  | i :: ix,l,x :: xs,h => by
    simp only [putAt,List.length_cons] at h ⊢
    rw [putAt_len ix _ _ (by omega),List.length_set];omega
  | _ :: _,_,[],h => by simp at h
theorem putAt_old {α : Type} : ∀ (ix : List Nat) (l xs : List α) (j : Nat),ix.length ≤ xs.length → j < l.length → j ∉ ix → (putAt l ix xs)[j]? = l[j]?
  | [],l,xs,j,_,hj,_ => by
    have : putAt l [] xs = l ++ xs:=by cases xs <;> rfl
    rw [this,List.getElem?_append_left hj]
  | i :: ix,l,x :: xs,j,h,hj,hn => by
    simp only [putAt]
    rw [putAt_old ix _ xs j (by simpa using h) (by simpa using hj) (fun h => hn (List.mem_cons_of_mem _ h)),List.getElem?_set_ne (fun e => hn (by rw [e];exact List.mem_cons_self ..))]
  | _ :: _,_,[],_,h,_,_ => by simp at h
theorem putAt_new {α : Type} : ∀ (ix : List Nat) (l xs : List α) (k : Nat),ix.Nodup → (∀ i,i ∈ ix → i < l.length) → ix.length ≤ xs.length → k < xs.length → (putAt l ix xs)[posL l.length ix k]? = xs[k]?
  | [],l,xs,k,_,_,_,hk => by
    have : putAt l [] xs = l ++ xs:=by cases xs <;> rfl
    rw [this]
    simp only [posL,List.getElem?_nil,List.length_nil,Nat.sub_zero]
    rw [List.getElem?_append_right (by omega),Nat.add_sub_cancel_left]
  | i :: ix,l,x :: xs,0,hn,hl,h,hk => by
    simp only [putAt,posL,getElem?_cons_zero]
    have:=List.nodup_cons.1 hn
    rw [putAt_old ix _ xs i (by simpa using h) (by simpa using hl i (List.mem_cons_self ..)) this.1,List.getElem?_set_self (hl i (List.mem_cons_self ..))]
  | i :: ix,l,x :: xs,k + 1,hn,hl,h,hk => by
    have h1:=List.nodup_cons.1 hn
    have:=putAt_new ix (l.set i x) xs k h1.2 (fun j hj => by simpa using hl j (List.mem_cons_of_mem _ hj)) (by simpa using h) (by simpa using hk)
    simp only [putAt,getElem?_cons_succ]
    rw [← this,List.length_set]
    congr 1
    simp only [posL,getElem?_cons_succ,List.length_cons,Nat.add_sub_add_right]
  | _ :: _,_,[],_,_,_,h,_ => by simp at h
theorem putAt_cases {ix : List Nat} {n m j : Nat} (hle : ix.length ≤ m) (hj : j < n + (m - ix.length)) : (∃ k,k < m ∧ j = posL n ix k) ∨ (j < n ∧ j ∉ ix):=by
  by_cases h1 : j ∈ ix
  · obtain ⟨k,hk⟩:=List.getElem?_of_mem h1
    have:=(List.getElem?_eq_some_iff.1 hk).1
    exact .inl ⟨k,by omega,by simp [posL,hk]⟩
  · by_cases h2 : j < n
    · exact .inr ⟨h2,h1⟩
    · refine .inl ⟨ix.length + (j - n),by omega,?_⟩
      simp only [posL,List.getElem?_eq_none (show ix.length ≤ ix.length + (j - n) by omega)]
      omega
end
def posH (ix : List Nat) (σ : St) (h' : List O) : St:=⟨killST (ksOf σ.h ix) σ.t,putAt (killSH (ksOf σ.h ix) σ.h) ix (renH (posL σ.h.length ix) h')⟩
def allK (mk : Nat → Bool) : List Nat → Prop
  | [] => True
  | i :: r => mk i = true ∧ allK mk r
theorem allK_mem {mk : Nat → Bool} : ∀ {l : List Nat},allK mk l → ∀ i,i ∈ l → mk i = true
  | [],_,_,h => by cases h
  | _ :: l,h,i,hi => by
    rcases List.mem_cons.1 hi with rfl|hi
    · exact h.1
    · exact allK_mem h.2 i hi
def HCall (P : Program) (mk : Nat → Bool) (d : Option Nat) (σ : St) (xs : List X) (n : Nat) (f : FuncId) (K : St → Prop) : Prop :=
  ∃ (l ix : List Nat) (Hs : List O) (Q : A → List O → Prop),CtH P f (A.emL ix (peels (evs (σ.frzs l) xs))) Hs Q ∧ n = xs.length ∧ guards (evs (σ.frzs l) xs) ∧ ix.Nodup ∧ emH ix (σ.frzs l).h ix = some Hs ∧ allK mk ix ∧
    ∀ (r : A) (h' : List O),Q r h' → K ((posH ix (σ.frzs l) h').putO d (r.ren (posL (σ.frzs l).h.length ix)))
def ACall (P : Program) (mk : Nat → Bool) (d : Option Nat) (σ0 : St) (xs : List X) (σb : St) (Bs : List A) (σ : St) (f : FuncId) (As : List A) (K : St → Prop) : Prop :=
  (∃ r,Ct P f As r ∧ after d σb σ r K) ∨
  (∃ i xs xs' r,treeArg σb Bs = some (i,xs) ∧ mk i = true ∧ Bs.length = As.length ∧ CtM P f (A.mk1L i Bs) xs xs' r ∧ K (St.putO ⟨σb.t,σb.h.set i (.tree xs')⟩ d r)) ∨
  (∃ r,Ct P f As r ∧ after d σ0 σ r K) ∨
  HCall P mk d σ0 xs As.length f K
structure G where
  d : Option Nat
  g : Option (Nat × Bool)
  i : I
def Res.go (P : Program) (mk : Nat → Bool) (d : Option Nat) (σ : St) (K : St → Prop) : Res → Prop
  | .bad => False
  | .val p x => p ∧ K (σ.putO d x)
  | .st p σ' x => p ∧ K (σ'.putO d x)
  | .call p σ0 xs σb Bs σ' f As => p ∧ ACall P mk d σ0 xs σb Bs σ' f (A.argL As) K
def bsel (want b : Bool) : Bool:=bif want then b else !b
def allB (_ : Nat) : Bool:=true
def gopO (P : Program) (σ : St) (K : St → Prop) (g : G) (t : Nat) (want b g' : Bool) : Prop :=
  (g' = true → (bsel want b = true → (g.i.res (σ.put t (.d true (.bool want)))).go P allB g.d (σ.put t (.d true (.bool want))) K) ∧ (bsel want b = false → K ((σ.put t (.d true (.bool (!want)))).putO g.d (.opt false (.d true (.bool false)))))) ∧ (g' = false → K (σ.putO g.d (.opt false (.d true (.bool false)))))
def gop (P : Program) (σ : St) (K : St → Prop) (g : G) : Prop :=
  match g.g with
  | none => (g.i.res σ).go P allB g.d σ K
  | some (t,want) => match lkp σ.t t with
    | .d _ (.bool b) => match g.i.res σ with
      | .val p x => (bsel want b = true → p) ∧ K (σ.putO g.d (.opt (bsel want b) x))
      | _ => (bsel want b = true → (g.i.res (σ.put t (.d true (.bool want)))).go P allB g.d (σ.put t (.d true (.bool want))) K) ∧ (bsel want b = false → K ((σ.put t (.d true (.bool (!want)))).putO g.d (.opt false (.d true (.bool false)))))
    | .opt g' (.d _ (.bool b)) => match g.i.res σ with
      | .val p x => (g' = true → bsel want b = true → p) ∧ K (σ.putO g.d (.opt (g' && bsel want b) x))
      | _ => gopO P σ K g t want b g'
    | _ => False
def aops (P : Program) : List G → (St → Prop) → St → Prop
  | [],K,σ => K σ
  | g :: r,K,σ => gop P σ (aops P r K) g
def toG (P : Program) (n : Nat) (ops : Array Oper) (o : Oper) : G :=
  match o.dst with
  | some d => if d < n then
      match o.guard with
      | none => ⟨some d,none,toI P o⟩
      | some (j,want) => match (ops[j]?).bind (·.dst) with
        | some t => if t < n then ⟨some d,some (t,want),toI P o⟩ else ⟨none,none,.bad⟩
        | none => ⟨none,none,.bad⟩
    else ⟨none,none,.bad⟩
  | none =>
      match o.guard with
      | none => ⟨none,none,toI P o⟩
      | some (j,want) => match (ops[j]?).bind (·.dst) with
        | some t => if t < n then ⟨none,some (t,want),toI P o⟩ else ⟨none,none,.bad⟩
        | none => ⟨none,none,.bad⟩
def SK (c : Cx) (K : St → Prop) (a : Act) (w : World) : Prop:=∃ σ β,K σ ∧ Sim c σ β a w
section
variable {P : Program} {c : Cx} {σ : St} {β : List Value} {a : Act} {w w' : World} {o : Oper} [hcx : Nonempty (CxOk c)]
mutual
theorem VSim.arg {ok : Nat → Prop} {lo : Nat} : ∀ {x : A} {v : Value},VSim w ok lo β x v → VSim w ok lo β x.arg v
  | .d o x,v,h => by simp only [A.arg,VSim];exact h.read
  | .nil,v,h => by simp only [A.arg,VSim] at h ⊢;subst h;exact Rep.nil _ _ _ _
  | .fn f xs,v,h => by
    simp only [VSim,A.arg] at h ⊢
    obtain ⟨vs,h1,h2⟩:=h
    exact ⟨vs,h1,VSimL.arg h2⟩
  | .agg xs,v,h => by
    simp only [VSim,A.arg] at h ⊢
    obtain ⟨vs,h1,h2⟩:=h
    exact ⟨vs,h1,VSimL.arg h2⟩
  | .tup xs,v,h => by
    simp only [VSim,A.arg] at h ⊢
    obtain ⟨vs,h1,h2⟩:=h
    exact ⟨vs,h1,VSimL.arg h2⟩
  | .ep ds off,v,h => h
  | .ptr _ _,_,_|.osl _,_,_|.otr _,_,_|.optr _ _ _ _,_,_|.opt _ _,_,_|.pin _ _,_,_|.any,_,_ => by simp [A.arg,VSim]
theorem VSimL.arg {ok : Nat → Prop} {lo : Nat} : ∀ {xs : List A} {vs : List Value},VSimL w ok lo β xs vs → VSimL w ok lo β (A.argL xs) vs
  | [],[],_ => by simp [A.argL,VSimL]
  | x :: xs,v :: vs,h => by
    simp only [VSimL,A.argL] at h ⊢
    exact ⟨VSim.arg h.1,VSimL.arg h.2⟩
  | _ :: _,[],h => by simp [VSimL] at h
  | [],_ :: _,h => by simp [VSimL] at h
end
mutual
theorem VSim.argLo {ok : Nat → Prop} {lo lo' : Nat} {β' : List Value} : ∀ {x : A} {v : Value},VSim w ok lo β x.arg v → VSim w ok lo' β' x.arg v
  | .d o x,v,h => by simp only [A.arg,VSim] at h ⊢;exact h
  | .nil,v,h => by simp only [A.arg,VSim] at h ⊢;exact h
  | .fn f xs,v,h => by
    simp only [VSim,A.arg] at h ⊢
    obtain ⟨vs,h1,h2⟩:=h
    exact ⟨vs,h1,VSimL.argLo h2⟩
  | .agg xs,v,h => by
    simp only [VSim,A.arg] at h ⊢
    obtain ⟨vs,h1,h2⟩:=h
    exact ⟨vs,h1,VSimL.argLo h2⟩
  | .tup xs,v,h => by
    simp only [VSim,A.arg] at h ⊢
    obtain ⟨vs,h1,h2⟩:=h
    exact ⟨vs,h1,VSimL.argLo h2⟩
  | .ep ds off,v,h => by simp only [A.arg,VSim] at h ⊢;exact h
  | .ptr _ _,_,_|.osl _,_,_|.otr _,_,_|.optr _ _ _ _,_,_|.opt _ _,_,_|.pin _ _,_,_|.any,_,_ => by simp [A.arg,VSim]
theorem VSimL.argLo {ok : Nat → Prop} {lo lo' : Nat} {β' : List Value} : ∀ {xs : List A} {vs : List Value},VSimL w ok lo β (A.argL xs) vs → VSimL w ok lo' β' (A.argL xs) vs
  | [],[],_ => by simp [A.argL,VSimL]
  | x :: xs,v :: vs,h => by
    simp only [VSimL,A.argL] at h ⊢
    exact ⟨VSim.argLo h.1,VSimL.argLo h.2⟩
  | _ :: _,[],h => by simp [A.argL,VSimL] at h
  | [],_ :: _,h => by simp [A.argL,VSimL] at h
end
mutual
theorem VSim.mk1 {ok ok' : Nat → Prop} {lo lo' : Nat} {i : Nat} {u : Value} {F : List Nat} (hm : ∀ b,ok b → ok' b) (hi : β[i]? = some (tv u F)) : ∀ {x : A} {v : Value},VSim w ok lo β x v → VSim w ok' lo' [tv u F] (A.mk1 i x) v
  | .otr j,v,h => by
    simp only [A.mk1]
    by_cases hj : i = j
    · subst hj
      rw [Nat.beq_refl]
      simp only [VSim,cond_true] at h ⊢
      obtain ⟨⟨G,h1⟩,h2⟩:=h
      rw [hi] at h1
      injection h1 with h1
      obtain ⟨rfl,rfl⟩:=tv_inj h1
      exact ⟨⟨F,rfl⟩,h2⟩
    · rw [beq_no hj];simp [VSim]
  | .d o x,v,h => by simp only [A.mk1,VSim];exact h.read.move (fun b hb => ⟨hm b hb,rfl⟩)
  | .nil,v,h => by simp only [A.mk1,VSim] at h ⊢;subst h;exact Rep.nil _ _ _ _
  | .agg xs,v,h => by
    simp only [A.mk1,VSim] at h ⊢
    obtain ⟨vs,h1,h2⟩:=h
    exact ⟨vs,h1,VSimL.mk1 hm hi h2⟩
  | .tup _,_,_|.fn _ _,_,_|.ep _ _,_,_|.ptr _ _,_,_|.osl _,_,_|.optr _ _ _ _,_,_|.opt _ _,_,_|.pin _ _,_,_|.any,_,_ => by simp [A.mk1,VSim]
theorem VSimL.mk1 {ok ok' : Nat → Prop} {lo lo' : Nat} {i : Nat} {u : Value} {F : List Nat} (hm : ∀ b,ok b → ok' b) (hi : β[i]? = some (tv u F)) : ∀ {xs : List A} {vs : List Value},VSimL w ok lo β xs vs → VSimL w ok' lo' [tv u F] (A.mk1L i xs) vs
  | [],[],_ => by simp [A.mk1L,VSimL]
  | x :: xs,v :: vs,h => by
    simp only [A.mk1L,VSimL] at h ⊢
    exact ⟨VSim.mk1 hm hi h.1,VSimL.mk1 hm hi h.2⟩
  | [],_ :: _,h => by simp [VSimL] at h
  | _ :: _,[],h => by simp [VSimL] at h
end
def Fresh (w : World) (n : Nat) (b : Nat) : Prop:=b < w.heap.size ∧ n ≤ b
mutual
theorem VSim.own1 {ok ok' : Nat → Prop} {n lo : Nat} {β' : List Value} (hok : ∀ b,ok b → b < w.heap.size) (hk : ∀ b,Fresh w n b → ok' b) (hlo : lo ≤ n) :
    ∀ {r : A} {v : Value} {l : List (List (List D))},A.own1 r = some l → VSim w ok n β r v → VSim w ok' lo β' r v
  | .d o (.int k m),v,l,_,h => by
    have:=vint h
    cases o with
    | true => rw [this.1];exact vsim_int k m this.2.1 this.2.2
    | false => rw [this.1];exact .int k m this.2.1 this.2.2
  | .d o (.bool b),v,l,_,h => by
    have:=vbool h
    cases o with
    | true => rw [this];exact vsim_bool b
    | false => rw [this];exact .bool b
  | .d o (.str s),v,l,_,h => by
    have:=vstr h
    cases o with
    | true => rw [this.1];exact vsim_str s this.2
    | false => rw [this.1];exact .str s this.2
  | .d true (.sl xs),v,l,_,h => by
    simp only [VSim] at h ⊢
    obtain ⟨F,h1,h2,h3⟩:=h
    exact ⟨F,h1,h2,fun b hb => ⟨hk b ⟨hok b (h3 b hb).1,(h3 b hb).2⟩,Nat.le_trans hlo (h3 b hb).2⟩⟩
  | .d false (.sl xs),v,l,hl,h => by simp [A.own1] at hl
  | .nil,v,l,_,h => by simp only [VSim] at h ⊢;exact h
  | .any,v,l,_,h => by simp [VSim]
  | .agg xs,v,l,hl,h => by
    simp only [VSim,A.own1] at h hl ⊢
    obtain ⟨vs,h1,h2⟩:=h
    exact ⟨vs,h1,VSimL.own1 hok hk hlo hl h2⟩
  | .tup xs,v,l,hl,h => by
    simp only [VSim,A.own1] at h hl ⊢
    obtain ⟨vs,h1,h2⟩:=h
    exact ⟨vs,h1,VSimL.own1 hok hk hlo hl h2⟩
  | .fn _ _,_,_,hl,_|.ep _ _,_,_,hl,_|.ptr _ _,_,_,hl,_|.osl _,_,_,hl,_|.otr _,_,_,hl,_|.optr _ _ _ _,_,_,hl,_|.opt _ _,_,_,hl,_|.pin _ _,_,_,hl,_ => by simp [A.own1] at hl
theorem VSimL.own1 {ok ok' : Nat → Prop} {n lo : Nat} {β' : List Value} (hok : ∀ b,ok b → b < w.heap.size) (hk : ∀ b,Fresh w n b → ok' b) (hlo : lo ≤ n) :
    ∀ {xs : List A} {vs : List Value} {l : List (List (List D))},A.own1L xs = some l → VSimL w ok n β xs vs → VSimL w ok' lo β' xs vs
  | [],[],_,_,_ => by simp [VSimL]
  | x :: xs,v :: vs,l,hl,h => by
    simp only [VSimL,A.own1L] at h hl ⊢
    split at hl
    · rename_i l1 l2 h1 h2
      exact ⟨VSim.own1 hok hk hlo h1 h.1,VSimL.own1 hok hk hlo h2 h.2⟩
    · cases hl
  | [],_ :: _,_,_,h => by simp [VSimL] at h
  | _ :: _,[],_,_,h => by simp [VSimL] at h
end
mutual
theorem VSim.own0 {ok ok' : Nat → Prop} {n lo m : Nat} {β' : List Value} : ∀ {r : A} {v : Value},A.own1 r = some [] → VSim w ok n β r v → VSim w ok' lo β' (r.adp m) v
  | .d o (.int k m'),v,_,h => by
    have:=vint h
    cases o with
    | true => rw [this.1];exact vsim_int k m' this.2.1 this.2.2
    | false => rw [this.1];exact .int k m' this.2.1 this.2.2
  | .d o (.bool b),v,_,h => by
    have:=vbool h
    cases o with
    | true => rw [this];exact vsim_bool b
    | false => rw [this];exact .bool b
  | .d o (.str s),v,_,h => by
    have:=vstr h
    cases o with
    | true => rw [this.1];exact vsim_str s this.2
    | false => rw [this.1];exact .str s this.2
  | .d true (.sl xs),v,hl,h => by simp [A.own1] at hl
  | .d false (.sl xs),v,hl,h => by simp [A.own1] at hl
  | .nil,v,_,h => by simp only [VSim,A.adp] at h ⊢;exact h
  | .any,v,_,h => by simp [VSim,A.adp]
  | .agg xs,v,hl,h => by
    simp only [VSim,A.own1,A.adp] at h hl ⊢
    obtain ⟨vs,h1,h2⟩:=h
    exact ⟨vs,h1,VSimL.own0 hl h2⟩
  | .tup xs,v,hl,h => by
    simp only [VSim,A.own1,A.adp] at h hl ⊢
    obtain ⟨vs,h1,h2⟩:=h
    exact ⟨vs,h1,VSimL.own0 hl h2⟩
  | .fn _ _,_,hl,_|.ep _ _,_,hl,_|.ptr _ _,_,hl,_|.osl _,_,hl,_|.otr _,_,hl,_|.optr _ _ _ _,_,hl,_|.opt _ _,_,hl,_|.pin _ _,_,hl,_ => by simp [A.own1] at hl
theorem VSimL.own0 {ok ok' : Nat → Prop} {n lo m : Nat} {β' : List Value} : ∀ {xs : List A} {vs : List Value},A.own1L xs = some [] → VSimL w ok n β xs vs → VSimL w ok' lo β' (A.adpL m xs) vs
  | [],[],_,_ => by simp [A.adpL,VSimL]
  | x :: xs,v :: vs,hl,h => by
    simp only [VSimL,A.own1L,A.adpL] at h hl ⊢
    split at hl
    · rename_i l1 l2 h1 h2
      simp only [Option.some.injEq,List.append_eq_nil_iff] at hl
      obtain ⟨rfl,rfl⟩:=hl
      exact ⟨VSim.own0 h1 h.1,VSimL.own0 h2 h.2⟩
    · cases hl
  | [],_ :: _,_,h => by simp [VSimL] at h
  | _ :: _,[],_,h => by simp [VSimL] at h
end
mutual
theorem VSim.own2 {ok ok' : Nat → Prop} {n lo : Nat} {γ : List Value} : ∀ {r : A} {v : Value} {xs : List (List D)},A.own1 r = some [xs] → VSim w ok n β r v →
    ∃ u F,OwnL w [u] [.sl xs] F ∧ F.Nodup ∧ (∀ b,b ∈ F → ok b ∧ n ≤ b) ∧ VSim w ok' lo (γ ++ [tv u F]) (r.adp γ.length) v
  | .d true (.sl xs),v,ys,hl,h => by
    simp only [A.own1,Option.some.injEq,List.cons.injEq,and_true] at hl
    subst hl
    have h1:=h.read.one
    simp only [VSim] at h
    obtain ⟨F,h2,h3,h4⟩:=h
    refine ⟨v,F,h2,h3,h4,?_⟩
    simp only [A.adp,VSim]
    exact ⟨⟨F,by simp⟩,h1⟩
  | .agg xs,v,ys,hl,h => by
    simp only [VSim,A.own1,A.adp] at h hl ⊢
    obtain ⟨vs,h1,h2⟩:=h
    obtain ⟨u,F,g1,g2,g3,g4⟩:=VSimL.own2 (ok':=ok') (lo:=lo) (γ:=γ) hl h2
    exact ⟨u,F,g1,g2,g3,vs,h1,g4⟩
  | .tup xs,v,ys,hl,h => by
    simp only [VSim,A.own1,A.adp] at h hl ⊢
    obtain ⟨vs,h1,h2⟩:=h
    obtain ⟨u,F,g1,g2,g3,g4⟩:=VSimL.own2 (ok':=ok') (lo:=lo) (γ:=γ) hl h2
    exact ⟨u,F,g1,g2,g3,vs,h1,g4⟩
  | .d _ (.int _ _),_,_,hl,_|.d _ (.bool _),_,_,hl,_|.d _ (.str _),_,_,hl,_|.d false (.sl _),_,_,hl,_|.nil,_,_,hl,_|.any,_,_,hl,_
  | .fn _ _,_,_,hl,_|.ep _ _,_,_,hl,_|.ptr _ _,_,_,hl,_|.osl _,_,_,hl,_|.otr _,_,_,hl,_|.optr _ _ _ _,_,_,hl,_|.opt _ _,_,_,hl,_|.pin _ _,_,_,hl,_ => by simp [A.own1] at hl
theorem VSimL.own2 {ok ok' : Nat → Prop} {n lo : Nat} {γ : List Value} : ∀ {rs : List A} {vs : List Value} {xs : List (List D)},A.own1L rs = some [xs] → VSimL w ok n β rs vs →
    ∃ u F,OwnL w [u] [.sl xs] F ∧ F.Nodup ∧ (∀ b,b ∈ F → ok b ∧ n ≤ b) ∧ VSimL w ok' lo (γ ++ [tv u F]) (A.adpL γ.length rs) vs
  | x :: rs,v :: vs,xs,hl,h => by
    simp only [VSimL,A.own1L,A.adpL] at h hl ⊢
    split at hl
    · rename_i l1 l2 h1 h2
      simp only [Option.some.injEq] at hl
      cases l1 with
      | nil =>
        simp only [List.nil_append] at hl
        subst hl
        obtain ⟨u,F,g1,g2,g3,g4⟩:=VSimL.own2 (ok':=ok') (lo:=lo) (γ:=γ) h2 h.2
        exact ⟨u,F,g1,g2,g3,VSim.own0 h1 h.1,g4⟩
      | cons y l1 =>
        simp only [List.cons_append,List.cons.injEq,List.append_eq_nil_iff] at hl
        obtain ⟨rfl,rfl,rfl⟩:=hl
        obtain ⟨u,F,g1,g2,g3,g4⟩:=VSim.own2 (ok':=ok') (lo:=lo) (γ:=γ) h1 h.1
        exact ⟨u,F,g1,g2,g3,g4,VSimL.own0 h2 h.2⟩
    · cases hl
  | [],[],_,hl,_ => by simp [A.own1L] at hl
  | [],_ :: _,_,_,h => by simp [VSimL] at h
  | _ :: _,[],_,_,h => by simp [VSimL] at h
end
theorem A.argL_length : ∀ xs : List A,(A.argL xs).length = xs.length
  | [] => rfl
  | x :: xs => by simp [A.argL,A.argL_length xs]
theorem call_ok (S : Sim c σ β a w) {f : FuncId} {As : List A} {r : A} (hc : Ct P f (A.argL As) r) {vs : List Value} (hv : VSimL w (okOf c w σ.h β) c.lo β As vs) :
    Calls P f vs.toArray w fun e w' => ∃ v,e = .returned v ∧ Ext w w' ∧ Sim c σ β a w' ∧ VSim w' (okOf c w' σ.h β) c.lo β r v ∧ VSim w' (fun b => b < w'.heap.size) w.heap.size [] r v:=by
  refine (hc.2 w (okOf c w σ.h β) vs (S.laid hcx) (fun b hb => hb.1) (VSimL.argLo (VSimL.arg hv))).mono ?_
  rintro e w' ⟨v,rfl,hx,hr⟩
  refine ⟨v,rfl,hx,S.ext hx,?_,hr.move (p:=fun _ => true) (fun b hb => ⟨hb.1,rfl⟩) (Nat.le_refl _) (fun _ _ _ h => h) (A.free_true _)⟩
  refine hr.move (p:=fun _ => true) (fun b hb => ⟨⟨hb.1,?_,fun i o' u h1 h2 h3 => ?_⟩,rfl⟩) (Nat.le_trans c.hlo S.fr.size) (fun i u _ h => by simp at h) (A.free_true _)
  · rcases hb.2 with h|h
    · exact h.2.1
    · exact .inr (.inl (Nat.le_trans S.fr.size h))
  · rcases hb.2 with h|h
    · exact h.2.2 i o' u h1 h2 h3
    · have:=(S.own i o' u b h1 h2 h3).2
      omega
theorem after_ok {wb : World} {σb : St} (Sb : Sim c σb β a wb) (S : Sim c σ β a w') (hx : Ext wb w') {r : A} {v : Value} (h1 : VSim w' (okOf c w' σ.h β) c.lo β r v) (h2 : VSim w' (fun b => b < w'.heap.size) wb.heap.size [] r v)
    {d : Option Nat} {K : St → Prop} (h : after d σb σ r K) : ∃ σ' β' x,K (σ'.putO d x) ∧ Sim c σ' β' a w' ∧ VSim w' (okOf c w' σ'.h β') c.lo β' x v ∧ (∀ (i : Nat) (q' : O) (v' : Value) (b : Nat),σ'.h[i]? = some q' → β'[i]? = some v' → b ∈ blkOf q' v' → wb.heap.size ≤ b ∨ ∃ q : O,(σb.h[i]? = some q ∨ σ.h[i]? = some q) ∧ β[i]? = some v' ∧ b ∈ blkOf q v') ∧ β.length ≤ β'.length:=by
  have _:=hcx
  have Se:=Sb.ext hx
  unfold after at h
  split at h
  · rename_i xs hl
    have hfresh : ∃ u F,OwnL w' [u] [.sl xs] F ∧ F.Nodup ∧ (∀ b,b ∈ F → b < w'.heap.size ∧ wb.heap.size ≤ b) ∧ ∀ (ok' : Nat → Prop),VSim w' ok' c.lo (β ++ [tv u F]) (r.adp β.length) v:=by
      obtain ⟨u,F,g1,g2,g3,g4⟩:=VSim.own2 (ok':=fun _ => False) (lo:=c.lo) (γ:=β) hl h2
      exact ⟨u,F,g1,g2,g3,fun ok' => g4.move (p:=fun _ => true) (fun b hb => hb.elim) (Nat.le_refl _) (fun _ _ _ h => h) (A.free_true _)⟩
    obtain ⟨u,F,g1,g2,g3,g4⟩:=hfresh
    refine ⟨⟨σb.t,σb.h ++ [.tree xs]⟩,β ++ [tv u F],r.adp σb.h.length,h,?_,?_,fun i q' v' b k1 k2 k3 => ?_,by simp⟩
    · have hnew:=Sb.new (o:=.tree xs) (v:=tv u F) hx rfl (fun b hb => by
        have hb : b ∈ F:=by simpa [blkOf,tvF_tv] using hb
        exact ⟨(g3 b hb).2,(g3 b hb).1⟩) (fun _ => ⟨u,F,rfl,g1,g2,fun b hb => Nat.le_trans (Nat.le_trans c.hlo Sb.fr.size) (g3 b hb).2⟩)
      exact hnew
    · rw [← Sb.len];exact g4 _
    · rcases get_snoc k1 with k1|⟨k1,k1'⟩
      · rcases get_snoc k2 with k2|⟨k2,_⟩
        · exact .inr ⟨q',.inl k1,k2,k3⟩
        · have:=(List.getElem?_eq_some_iff.1 k1).1
          have:=Sb.len
          omega
      · rcases get_snoc k2 with k2|⟨_,k2'⟩
        · have:=(List.getElem?_eq_some_iff.1 k2).1
          have:=Sb.len
          omega
        · subst k1';subst k2'
          have hb : b ∈ F:=by simpa [blkOf,tvF_tv] using k3
          exact .inl (g3 b hb).2
  · rename_i l _ hl
    refine ⟨σb,β,r,h,Se,?_,fun i q' v' b k1 k2 k3 => .inr ⟨q',.inl k1,k2,k3⟩,Nat.le_refl _⟩
    refine VSim.own1 (ok:=fun b => b < w'.heap.size) (β:=[]) (n:=wb.heap.size) (fun b hb => hb) (fun b hb => ⟨hb.1,.inr (.inl (Nat.le_trans Sb.fr.size hb.2)),fun i o' u k1 k2 k3 => ?_⟩) (Nat.le_trans c.hlo Sb.fr.size) hl h2
    have:=(Sb.own i o' u b k1 k2 k3).2
    have:=hb.2
    omega
  · exact ⟨σ,β,r,h,S,h1,fun i q' v' b k1 k2 k3 => .inr ⟨q',.inr k1,k2,k3⟩,Nat.le_refl _⟩
theorem mcall_ok {σb : St} (S : Sim c σb β a w) {f : FuncId} {Bs : List A} {i : Nat} {xs xs' : List (List D)} {r : A} (ht : treeArg σb Bs = some (i,xs)) (hc : CtM P f (A.mk1L i Bs) xs xs' r) {vs : List Value} (hv : VSimL w (okOf c w σb.h β) c.lo β Bs vs) :
    Calls P f vs.toArray w fun e w' => ∃ v,e = .returned v ∧ Sim c ⟨σb.t,σb.h.set i (.tree xs')⟩ β a w' ∧ VSim w' (okOf c w' (σb.h.set i (.tree xs')) β) c.lo β r v ∧
      Fr (fun b => ∃ (q : O) (u : Value),σb.h[i]? = some q ∧ β[i]? = some u ∧ b ∈ blkOf q u) w w' ∧ ∀ (j : Nat) (q' : O) (v' : Value) (b : Nat),(σb.h.set i (.tree xs'))[j]? = some q' → β[j]? = some v' → b ∈ blkOf q' v' → ∃ q,σb.h[j]? = some q ∧ b ∈ blkOf q v':=by
  have hi : σb.h[i]? = some (.tree xs):=by
    unfold treeArg at ht
    split at ht
    · split at ht
      · rename_i j ys hj
        simp only [Option.some.injEq,Prod.mk.injEq] at ht
        obtain ⟨rfl,rfl⟩:=ht
        exact hj
      · cases ht
    · cases ht
  have hil:=(List.getElem?_eq_some_iff.1 hi).1
  obtain ⟨v0,hb0⟩ : ∃ v,β[i]? = some v:=⟨_,List.getElem?_eq_getElem (show i < β.length by rw [S.len];exact hil)⟩
  obtain ⟨u,F,rfl,t1,t2,t3⟩:=tree_of S hi hb0
  have hblk : ∀ b,b ∈ blkOf (.tree xs) (tv u F) ↔ b ∈ F:=fun b => by simp [blkOf,tvF_tv]
  refine (hc.2.2 w (fun b => okOf c w σb.h β b) vs u F (S.laid hcx) (fun b hb => Nat.le_trans (hcx.elim fun h => h.2.2) (t3 b hb)) (fun b hb => ⟨hb.1,fun hF => hb.2.2 i _ _ hi hb0 ((hblk b).2 hF)⟩) (fun b hb => (S.own i _ _ b hi hb0 ((hblk b).2 hb)).2) t1 t2 (VSimL.mk1 (fun b hb => hb) hb0 hv)).mono ?_
  rintro e w' ⟨v,rfl,hx,ho,hr⟩
  refine ⟨v,rfl,?_,?_,⟨hx.os,hx.tape,hx.output,hx.size,fun b hb hn => hx.block b hb (fun hF => hn ⟨_,_,hi,hb0,(hblk b).2 hF⟩)⟩,fun j q' v' b h1 h2 h3 => ?_⟩
  · have hset : β.set i (tv u F) = β:=set_same hb0
    have:=S.change (i:=i) (o:=.tree xs) (o':=.tree xs') (v:=tv u F) (v':=tv u F) (p:=fun _ => true) (t:=σb.t) (h':=σb.h.set i (.tree xs')) (w':=w') hi hb0 rfl (fun k z _ hk => by rw [hset];exact hk)
      ⟨hx.os,hx.tape,hx.output,hx.size,fun b hb hne => hx.block b hb (fun hF => hne ((hblk b).2 hF))⟩ (fun b hb => .inl hb) (fun k => .inr ⟨rfl,A.free_true _⟩) (by simp) (by simp [hil])
      (fun k q hk hq => by
        rw [List.getElem?_set_ne (fun e => hk e.symm)] at hq
        exact ⟨q,hq,fun _ => rfl,.inl ⟨rfl,fun cells _ => A.freeL_true _⟩⟩)
      (fun _ => ⟨u,F,rfl,ho,t2,t3⟩)
    rw [hset] at this
    exact this
  · have hs:=hc.2.1
    have h0 : A.own1 r = some []:=by
      cases r <;> simp [scalar] at hs
      rename_i o1 x
      cases x <;> simp [A.own1] at hs ⊢
    have hadp : r.adp 0 = r:=by
      cases r <;> simp [scalar] at hs
      rename_i o1 x
      cases x <;> cases o1 <;> first|(simp only [A.adp];done)|(simp at hs;done)
    have:=VSim.own0 (ok':=okOf c w' (σb.h.set i (.tree xs')) β) (lo:=c.lo) (β':=β) (m:=0) h0 hr
    rwa [hadp] at this
  · by_cases hj : i = j
    · subst hj
      rw [List.getElem?_set_self hil] at h1
      injection h1 with h1
      subst h1
      exact ⟨_,hi,h3⟩
    · rw [List.getElem?_set_ne hj] at h1
      exact ⟨q',h1,h3⟩
theorem hcall_ok (S : Sim c σ β a w) {f : FuncId} {ix : List Nat} {Cs : List A} {Hs : List O} {Q : A → List O → Prop} (hix : ix.Nodup) (hH : emH ix σ.h ix = some Hs) (hc : CtH P f (A.emL ix Cs) Hs Q) {vs : List Value} (hv : VSimL w (okOf c w σ.h β) c.lo β Cs vs) :
    Calls P f vs.toArray w fun e w' => ∃ (v : Value) (r : A) (h' : List O) (β' : List Value),e = .returned v ∧ Q r h' ∧ Hs.length ≤ h'.length ∧
      Sim c ⟨killST (ksOf σ.h ix) σ.t,putAt (killSH (ksOf σ.h ix) σ.h) ix (renH (posL σ.h.length ix) h')⟩ β' a w' ∧
      VSim w' (okOf c w' (putAt (killSH (ksOf σ.h ix) σ.h) ix (renH (posL σ.h.length ix) h')) β') c.lo β' (r.ren (posL σ.h.length ix)) v ∧
      Fr (fun b => ∃ (i : Nat) (q : O) (u : Value),i ∈ ix ∧ σ.h[i]? = some q ∧ β[i]? = some u ∧ b ∈ blkOf q u) w w' ∧
      (∀ (j : Nat) (q : O) (u : Value) (b : Nat),(putAt (killSH (ksOf σ.h ix) σ.h) ix (renH (posL σ.h.length ix) h'))[j]? = some q → β'[j]? = some u → b ∈ blkOf q u →
        w.heap.size ≤ b ∨ (∃ (i : Nat) (q0 : O) (u0 : Value),i ∈ ix ∧ σ.h[i]? = some q0 ∧ β[i]? = some u0 ∧ b ∈ blkOf q0 u0) ∨ ∃ q0,σ.h[j]? = some q0 ∧ β[j]? = some u ∧ b ∈ blkOf q0 u) ∧ β.length ≤ β'.length:=by
  obtain ⟨hHl,hHg⟩:=emH_get hH
  have hlt : ∀ i,i ∈ ix → i < σ.h.length:=fun i hi => by
    obtain ⟨k,hk⟩:=List.getElem?_of_mem hi
    obtain ⟨o,ho,_⟩:=hHg k i hk
    exact (List.getElem?_eq_some_iff.1 ho).1
  have hltβ : ∀ i,i ∈ ix → i < β.length:=fun i hi => by rw [S.len];exact hlt i hi
  generalize hβs : ix.map (fun i => β.getD i undef) = βs
  have hβl : βs.length = ix.length:=by rw [← hβs];simp
  have hβg : ∀ k i,ix[k]? = some i → βs[k]? = β[i]?:=fun k i hk => by
    rw [← hβs,List.getElem?_map,hk,Option.map_some]
    have:=hltβ i (List.mem_of_getElem? hk)
    rw [List.getD_eq_getElem?_getD,List.getElem?_eq_getElem this];rfl
  have hβi : ∀ i k u,idxL ix 0 i = some k → β[i]? = some u → βs[k]? = some u:=fun i k u hk hu => by
    have:=(idxL_get hk).2
    rw [Nat.sub_zero] at this
    rw [hβg k i this,hu]
  -- the objects, as the callee has them
  have hget : ∀ (k : Nat) (o : O) (v : Value),Hs[k]? = some o → βs[k]? = some v → ∃ (i : Nat) (q : O),ix[k]? = some i ∧ σ.h[i]? = some q ∧ β[i]? = some v ∧ o = q.em ix:=by
    intro k o v h1 h2
    have hk:=(List.getElem?_eq_some_iff.1 h1).1
    rw [hHl] at hk
    have hi : ix[k]? = some ix[k]:=List.getElem?_eq_getElem hk
    obtain ⟨q,g1,g2⟩:=hHg k _ hi
    rw [g2] at h1
    exact ⟨_,q,hi,g1,by rw [← hβg k _ hi,h2],(Option.some.inj h1).symm⟩
  have hBl : ∀ b,Bl Hs βs b → ∃ (i : Nat) (q : O) (v : Value),i ∈ ix ∧ σ.h[i]? = some q ∧ β[i]? = some v ∧ b ∈ blkOf q v:=by
    rintro b ⟨k,o,v,h1,h2,h3⟩
    obtain ⟨i,q,g1,g2,g3,rfl⟩:=hget k o v h1 h2
    exact ⟨i,q,v,List.mem_of_getElem? g1,g2,g3,by rwa [blk_em] at h3⟩
  have hHS : HS w (okOf c w σ.h β) c.lo Hs βs:=by
    refine ⟨by rw [hβl,hHl],fun k v hk => ?_,fun k o v h1 h2 => ?_,fun b hb => ?_,fun k k' o o' v v' b hkk h1 h2 h3 h4 h5 h6 => ?_⟩
    · have hkl:=(List.getElem?_eq_some_iff.1 hk).1
      rw [hβl] at hkl
      have hi : ix[k]? = some ix[k]:=List.getElem?_eq_getElem hkl
      rw [hβg k _ hi] at hk
      exact S.vone _ v hk
    · obtain ⟨i,q,g1,g2,g3,rfl⟩:=hget k o v h1 h2
      have:=S.obj i q v g2 g3
      cases q with
      | dead => trivial
      | row own ety e xs => exact this
      | tree xs => exact this
      | box cells =>
        obtain ⟨b,us,ty,rfl,k1,k2⟩:=this
        exact ⟨b,us,ty,rfl,k1,k2.emC (fun b hb => hb) hβi⟩
    · obtain ⟨i,q,v,_,g2,g3,g4⟩:=hBl b hb
      exact (S.own i q v b g2 g3 g4).2
    · obtain ⟨i,q,g1,g2,g3,rfl⟩:=hget k o v h1 h2
      obtain ⟨i',q',g1',g2',g3',rfl⟩:=hget k' o' v' h3 h4
      rw [blk_em] at h5 h6
      refine S.sep i i' q q' v v' b (fun e => ?_) g2 g3 g2' g3' h5 h6
      subst e
      exact hkk ((List.getElem?_inj (List.getElem?_eq_some_iff.1 g1).1 hix).1 (g1.trans g1'.symm))
  refine (hc.2 w (okOf c w σ.h β) c.lo vs βs (S.laid hcx) (Nat.le_trans c.hlo S.fr.size) (hcx.elim fun h => h.2.2) hHS (fun b hb => ⟨hb.1,fun hB => ?_⟩) (fun b hB => ?_) (hv.em (fun b hb => hb) hβi)).mono ?_
  · obtain ⟨i,q,v,_,g2,g3,g4⟩:=hBl b hB
    exact hb.2.2 i q v g2 g3 g4
  · obtain ⟨i,q,v,_,g2,g3,g4⟩:=hBl b hB
    rcases (S.own i q v b g2 g3 g4).1 with h|h
    · exact hcx.elim fun hx => hx.2.1 b h
    · exact Nat.le_trans (hcx.elim fun hx => hx.2.2) (Nat.le_trans c.hlo h)
  rintro e w' ⟨v,r,h',βs',rfl,hQ,hll,hfr,hs',hpin,hbl',hr⟩
  have hle' : ix.length ≤ h'.length:=by rw [← hHl];exact hll
  have hle2 : ix.length ≤ βs'.length:=by rw [hs'.len];exact hle'
  have hle3 : ix.length ≤ (renH (posL σ.h.length ix) h').length:=by rw [renH_len];exact hle'
  refine ⟨v,r,h',putAt β ix βs',rfl,hQ,hll,?_⟩
  generalize hks : ksOf σ.h ix = ks
  generalize hH' : putAt (killSH ks σ.h) ix (renH (posL σ.h.length ix) h') = H'
  generalize hB' : putAt β ix βs' = β'
  have hkl : (killSH ks σ.h).length = σ.h.length:=killSH_len _ _
  have hposβ : ∀ k,k < βs'.length → β'[posL σ.h.length ix k]? = βs'[k]?:=fun k hk => by
    rw [← hB',← S.len]
    exact putAt_new ix β βs' k hix hltβ hle2 hk
  have hold : ∀ i,i < σ.h.length → i ∉ ix → β'[i]? = β[i]?:=fun i hi hn => by
    rw [← hB']
    exact putAt_old ix β βs' i hle2 (by rw [S.len];exact hi) hn
  have hlenH : H'.length = σ.h.length + (h'.length - ix.length):=by rw [← hH',putAt_len _ _ _ hle3,renH_len,hkl]
  have hlenB : β'.length = σ.h.length + (h'.length - ix.length):=by rw [← hB',putAt_len _ _ _ hle2,S.len,hs'.len]
  -- what stands in the new state
  have view : ∀ (j : Nat) (o : O) (u : Value),H'[j]? = some o → β'[j]? = some u → (∃ (k : Nat) (q : O),h'[k]? = some q ∧ βs'[k]? = some u ∧ o = q.ren (posL σ.h.length ix) ∧ j = posL σ.h.length ix k) ∨ (∃ q : O,σ.h[j]? = some q ∧ β[j]? = some u ∧ o = q.killS ks ∧ j ∉ ix):=by
    intro j o u h1 h2
    have hj:=(List.getElem?_eq_some_iff.1 h1).1
    rw [hlenH] at hj
    rcases putAt_cases hle' hj with ⟨k,hk,rfl⟩|⟨hj,hn⟩
    · left
      have hnew:=putAt_new ix (killSH ks σ.h) (renH (posL σ.h.length ix) h') k hix (by rw [hkl];exact hlt) hle3 (by rw [renH_len];exact hk)
      rw [hkl] at hnew
      rw [← hH',hnew,renH_get] at h1
      obtain ⟨q,g1,g2⟩:=Option.map_eq_some_iff.1 h1
      rw [hposβ k (by rw [hs'.len];exact hk)] at h2
      exact ⟨k,q,g1,h2,g2.symm,rfl⟩
    · right
      rw [← hH',putAt_old ix _ _ j hle3 (by rw [hkl];exact hj) hn,killSH_get] at h1
      obtain ⟨q,g1,g2⟩:=Option.map_eq_some_iff.1 h1
      rw [hold j hj hn] at h2
      exact ⟨q,g1,h2,g2.symm,hn⟩
  have hβren : ∀ k u,βs'[k]? = some u → β'[posL σ.h.length ix k]? = some u:=fun k u hu => by
    rw [hposβ k (List.getElem?_eq_some_iff.1 hu).1,hu]
  have hβold : ∀ i u,inN ks i = false → β[i]? = some u → β'[i]? = some u:=by
    intro i u hp hu
    have hi:=(List.getElem?_eq_some_iff.1 hu).1
    rw [S.len] at hi
    by_cases hn : i ∈ ix
    · obtain ⟨k,hk⟩:=List.getElem?_of_mem hn
      rw [← hks] at hp
      obtain ⟨cells,hb⟩:=ksOf_box hn hp
      obtain ⟨o,ho,ho'⟩:=hHg k i hk
      rw [hb] at ho
      injection ho with ho
      subst ho
      have h1:=hpin k _ ho'
      have hkx:=(List.getElem?_eq_some_iff.1 hk).1
      have h2:=hposβ k (by omega)
      rw [h1,hβg k i hk,hu] at h2
      simpa [posL,hk] using h2
    · rw [hold i hi hn];exact hu
  have hmO : ∀ b,okOf c w σ.h β b → okOf c w' H' β' b ∧ w'.heap[b]? = w.heap[b]?:=by
    intro b hb
    have hnB : ¬ Bl Hs βs b:=fun hB => by
      obtain ⟨i,q,v,_,g2,g3,g4⟩:=hBl b hB
      exact hb.2.2 i q v g2 g3 g4
    refine ⟨⟨Nat.lt_of_lt_of_le hb.1 hfr.size,hb.2.1,fun j o u h1 h2 h3 => ?_⟩,hfr.block b hb.1 hnB⟩
    rcases view j o u h1 h2 with ⟨k,q,g1,g2,rfl,_⟩|⟨q,g1,g2,rfl,_⟩
    · rw [blk_ren] at h3
      rcases hbl' b ⟨k,q,u,g1,g2,h3⟩ with h|h
      · exact hnB h
      · have:=hb.1;omega
    · rw [blk_killS] at h3
      exact hb.2.2 j q u g1 g2 h3
  have hmH : ∀ b,okH w (okOf c w σ.h β) Hs βs w' h' βs' b → okOf c w' H' β' b:=by
    intro b hb
    refine ⟨hb.1,?_,fun j o u h1 h2 h3 => ?_⟩
    · rcases hb.2.1 with h|h|h
      · exact h.2.1
      · exact .inr (.inl (Nat.le_trans S.fr.size h))
      · obtain ⟨i,q,v,_,g2,g3,g4⟩:=hBl b h
        rcases (S.own i q v b g2 g3 g4).1 with h|h
        · exact .inr (.inr h)
        · exact .inr (.inl h)
    · rcases view j o u h1 h2 with ⟨k,q,g1,g2,rfl,_⟩|⟨q,g1,g2,rfl,hn⟩
      · rw [blk_ren] at h3
        exact hb.2.2 k q u g1 g2 h3
      · rw [blk_killS] at h3
        rcases hb.2.1 with h|h|h
        · exact h.2.2 j q u g1 g2 h3
        · have:=(S.own j q u b g1 g2 h3).2;omega
        · obtain ⟨i,q',v',hi,g3,g4,g5⟩:=hBl b h
          exact S.sep j i q q' u v' b (fun e => hn (e ▸ hi)) g1 g2 g3 g4 h3 g5
  refine ⟨⟨S.defers,S.size,S.fr.trans hfr (fun b hb hB => ?_),hlenB.trans hlenH.symm,fun j u hu => ?_,fun j o u h1 h2 => ?_,fun j o u b h1 h2 h3 => ?_,fun j j' o o' u u' b hjj h1 h2 h3 h4 h5 h6 => ?_,fun j => ?_⟩,?_,?_,fun j o u b h1 h2 h3 => ?_,by rw [hlenB,S.len];omega⟩
  · obtain ⟨i,q,v,_,g2,g3,g4⟩:=hBl b hB
    rcases (S.own i q v b g2 g3 g4).1 with h|h
    · exact h
    · omega
  · have hj:=(List.getElem?_eq_some_iff.1 hu).1
    rw [hlenB] at hj
    rcases putAt_cases hle' hj with ⟨k,hk,rfl⟩|⟨hj,hn⟩
    · rw [hposβ k (by rw [hs'.len];exact hk)] at hu
      exact hs'.vone k u hu
    · rw [hold j hj hn] at hu
      exact S.vone j u hu
  · rcases view j o u h1 h2 with ⟨k,q,g1,g2,rfl,_⟩|⟨q,g1,g2,rfl,hn⟩
    · have:=hs'.obj k q u g1 g2
      cases q with
      | dead => trivial
      | row own ety e xs =>
        obtain ⟨inner,k1,k2,k3,k4,k5⟩:=this
        refine ⟨inner,k1,k2,k3,k4.move (fun b hb => ⟨hmH b hb,rfl⟩),fun ho => ?_⟩
        obtain ⟨g0,F,g1,g2,g3⟩:=k5 ho
        exact ⟨g0,F,g1,g2,fun b hb => ⟨hmH b (g3 b hb).1,(g3 b hb).2⟩⟩
      | tree xs => exact this
      | box cells =>
        obtain ⟨b,us,ty,rfl,k1,k2⟩:=this
        exact ⟨b,us,ty,rfl,k1,k2.ren hmH hβren⟩
    · have hb0 : ∀ b,b ∈ blkOf q u → w'.heap[b]? = w.heap[b]?:=fun b hb => by
        refine hfr.block b (S.own j q u b g1 g2 hb).2 (fun hB => ?_)
        obtain ⟨i,q',v',hi,g3,g4,g5⟩:=hBl b hB
        exact S.sep j i q q' u v' b (fun e => hn (e ▸ hi)) g1 g2 g3 g4 hb g5
      have:=S.obj j q u g1 g2
      cases q with
      | dead => trivial
      | row own ety e xs => exact this.move (p:=fun _ => true) (β':=β) hmO (fun _ _ _ h => h) (fun cells he => by cases he) hb0
      | tree xs => exact this.move (p:=fun _ => true) (β':=β) hmO (fun _ _ _ h => h) (fun cells he => by cases he) hb0
      | box cells =>
        obtain ⟨b,us,ty,rfl,k1,k2⟩:=this
        exact ⟨b,us,ty,rfl,(hb0 b (by simp [blkOf])).trans k1,k2.killS hmO hβold⟩
  · rcases view j o u h1 h2 with ⟨k,q,g1,g2,rfl,_⟩|⟨q,g1,g2,rfl,hn⟩
    · rw [blk_ren] at h3
      refine ⟨?_,hs'.lt b ⟨k,q,u,g1,g2,h3⟩⟩
      rcases hbl' b ⟨k,q,u,g1,g2,h3⟩ with h|h
      · obtain ⟨i,q',v',_,g3,g4,g5⟩:=hBl b h
        exact (S.own i q' v' b g3 g4 g5).1
      · exact .inr (Nat.le_trans S.fr.size h)
    · rw [blk_killS] at h3
      have:=S.own j q u b g1 g2 h3
      exact ⟨this.1,Nat.lt_of_lt_of_le this.2 hfr.size⟩
  · have cross : ∀ {k : Nat} {q q' : O} {u u' : Value} {j' : Nat},h'[k]? = some q → βs'[k]? = some u → σ.h[j']? = some q' → β[j']? = some u' → j' ∉ ix → b ∈ blkOf q u → b ∈ blkOf q' u' → False:=by
      intro k q q' u u' j' g1 g2 k1 k2 hn h5 h6
      rcases hbl' b ⟨k,q,u,g1,g2,h5⟩ with h|h
      · obtain ⟨i,q0,v0,hi,g3,g4,g5⟩:=hBl b h
        exact S.sep j' i q' q0 u' v0 b (fun e => hn (e ▸ hi)) k1 k2 g3 g4 h6 g5
      · have:=(S.own j' q' u' b k1 k2 h6).2;omega
    rcases view j o u h1 h2 with ⟨k,q,g1,g2,rfl,e1⟩|⟨q,g1,g2,rfl,hn⟩ <;> rcases view j' o' u' h3 h4 with ⟨k',q',g1',g2',rfl,e2⟩|⟨q',g1',g2',rfl,hn'⟩
    · rw [blk_ren] at h5 h6
      exact hs'.sep k k' q q' u u' b (fun e => hjj (by rw [e1,e2,e])) g1 g2 g1' g2' h5 h6
    · rw [blk_ren] at h5
      rw [blk_killS] at h6
      exact cross g1 g2 g1' g2' hn' h5 h6
    · rw [blk_killS] at h5
      rw [blk_ren] at h6
      exact cross g1' g2' g1 g2 hn h6 h5
    · rw [blk_killS] at h5 h6
      exact S.sep j j' q q' u u' b hjj g1 g2 g1' g2' h5 h6
  · show VSim _ _ _ _ (lkp (killST ks σ.t) j) _
    rw [lkp_killST]
    exact (S.tmp j).killS hmO hβold
  · exact hr.ren hmH hβren
  · refine ⟨hfr.os,hfr.tape,hfr.output,hfr.size,fun b hb hn => hfr.block b hb (fun hB => hn ?_)⟩
    obtain ⟨i,q,v,hi,g2,g3,g4⟩:=hBl b hB
    exact ⟨i,q,v,hi,g2,g3,g4⟩
  · rcases view j o u h1 h2 with ⟨k,q,g1,g2,rfl,_⟩|⟨q,g1,g2,rfl,hn⟩
    · rw [blk_ren] at h3
      rcases hbl' b ⟨k,q,u,g1,g2,h3⟩ with h|h
      · exact .inr (.inl (hBl b h))
      · exact .inl h
    · rw [blk_killS] at h3
      exact .inr (.inr ⟨q,g1,g2,h3⟩)
theorem run_callFunc {f : FuncId} (h : CtF P f) (vs : Array Value) (w : World) : (callFunc f vs).run P w = .ok (.enter f vs) w:=by
  obtain ⟨fn,h1,h2,h3⟩:=h
  have h2' : fn.name ≠ "runtime.NumGoroutine" := by simpa using h2
  have h3' : fn.body ≠ none:=by intro h;rw [h] at h3;cases h3
  simp [callFunc,h1,h2',h3']
theorem go_ok (S : Sim c σ β a w) {K : St → Prop} {Q : Exit → Act → World → Prop} {d : Option Nat} (hd : o.dst = d) (hn : ∀ k,d = some k → k < c.n) {mk : Nat → Bool} (h : ((toI P o).res σ).go P mk d σ K) : o.wp P a w (SK c K) Q:=by
  have hr:=res_ok (P:=P) S o
  have put : ∀ {σ' : St} {β' : List Value} {w' : World} {x : A} {v : Value},Sim c σ' β' a w' → VSim w' (okOf c w' σ'.h β') c.lo β' x v → Sim c (σ'.putO d x) β' (a.put o.dst v) w':=by
    intro σ' β' w' x v S' hv
    rw [hd]
    cases d with
    | none => exact S'
    | some k => exact S'.put (hn k rfl) hv
  unfold Oper.wp
  cases hres : (toI P o).res σ with
  | bad => rw [hres] at h;exact h.elim
  | val p x =>
    rw [hres] at h hr
    obtain ⟨v,h1,h2⟩:=hr h.1
    rw [h1 w _ (Fr.refl _ _) Away.none]
    exact ⟨_,β,h.2,put S h2⟩
  | st p σ' x =>
    rw [hres] at h hr
    rcases hr h.1 with ⟨v,w',h1,β',S',h2,_⟩|⟨w',h1,β',S',h2,_⟩ <;> rw [h1]
    · exact ⟨_,β',h.2,put S' h2⟩
    · exact ⟨_,β',h.2,put S' h2⟩
  | call p σ0 xs σb Bs σ' f As =>
    rw [hres] at h hr
    obtain ⟨rfl,vs,hσ2,h1,Sb,hbs,S',h2,_⟩:=hr h.1
    rcases h.2 with ⟨r,hc,hk⟩|⟨i,xs,xs',r,ht,_,hlen,hc,hk⟩|⟨r,hc,hk⟩|⟨l,ix,Hs,Q,hc,hn,hg,hix,hH,_,hk⟩
    · rw [h1 w (Fr.refl _ _),run_callFunc hc.1]
      refine (call_ok S' hc h2).mono ?_
      rintro e w' ⟨v,rfl,hx,S2,hv,hv'⟩
      obtain ⟨σ2,β2,x,k1,k2,k3,_,_⟩:=after_ok Sb S2 hx hv hv' hk
      exact ⟨_,β2,k1,put k2 k3⟩
    · rw [h1 w (Fr.refl _ _),run_callFunc hc.1]
      rw [List.take_of_length_le (by rw [hlen,A.argL_length,VSimL.length h2];exact Nat.le_refl _)] at hbs
      refine (mcall_ok Sb ht hc hbs).mono ?_
      rintro e w' ⟨v,rfl,S2,hv,_⟩
      exact ⟨_,β,hk,put S2 hv⟩
    · rw [h1 w (Fr.refl _ _),run_callFunc hc.1]
      refine (call_ok S' hc h2).mono ?_
      rintro e w' ⟨v,rfl,hx,S2,hv,hv'⟩
      obtain ⟨σ2,β2,x,k1,k2,k3,_,_⟩:=after_ok S S2 hx hv hv' hk
      exact ⟨_,β2,k1,put k2 k3⟩
    · rw [h1 w (Fr.refl _ _),run_callFunc hc.1]
      have Sl:=S.frzs l
      have hvl:=hσ2 _ Sl
      rw [List.take_of_length_le (by rw [← hn,A.argL_length,VSimL.length h2];exact Nat.le_refl _)] at hvl
      refine (hcall_ok Sl hix hH hc (peels_sim hg hvl)).mono ?_
      rintro e w' ⟨v,r,h',β',rfl,hQ,_,S2,hv,_⟩
      exact ⟨_,β',hk r h' hQ,put S2 hv⟩
end
end Go.Proofs.YtlddcimpdkcgeaaGreatDoor.Sym
