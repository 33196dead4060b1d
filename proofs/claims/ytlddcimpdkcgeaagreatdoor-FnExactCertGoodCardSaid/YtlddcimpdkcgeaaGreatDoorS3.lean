/- Instructions: what they make of an abstract state. -/
import Derived.Test.YtlddcimpdkcgeaaGreatDoorS1
set_option linter.unusedVariables false
set_option linter.unusedSimpArgs false
/- The abstract state of a call, and how it stands to the machine's. -/
namespace Go.Proofs.YtlddcimpdkcgeaaGreatDoor.Sym
open Nat (zero_add)
open Go.RowKit
inductive O where
  | dead
  | box (cells : List A)
  | row (own : Bool) (ety e : Nat) (xs : List (List D))
  | tree (xs : List (List D))
instance : Inhabited O:=⟨.dead⟩
structure St where
  t : List (Nat × A)
  h : List O
def lkp : List (Nat × A) → Nat → A
  | [],_ => .any
  | (k,x) :: t,j => bif Nat.beq k j then x else lkp t j
def St.put (σ : St) (d : Nat) (x : A) : St:=⟨(d,x) :: σ.t,σ.h⟩
structure Fr (B : Nat → Prop) (w w' : World) : Prop where
  os : w'.os = w.os
  tape : w'.tape = w.tape
  output : w'.output = w.output
  size : w.heap.size ≤ w'.heap.size
  block : ∀ b,b < w.heap.size → ¬ B b → w'.heap[b]? = w.heap[b]?
theorem Fr.refl (B : Nat → Prop) (w : World) : Fr B w w:=⟨rfl,rfl,rfl,Nat.le_refl _,fun _ _ _ => rfl⟩
theorem Fr.trans {B B' : Nat → Prop} {w w1 w2 : World} (h : Fr B w w1) (k : Fr B' w1 w2) (hB : ∀ b,b < w.heap.size → B' b → B b) : Fr B w w2 :=
  ⟨k.os.trans h.os,k.tape.trans h.tape,k.output.trans h.output,Nat.le_trans h.size k.size,
    fun b hb hn => (k.block b (Nat.lt_of_lt_of_le hb h.size) (fun h' => hn (hB b hb h'))).trans (h.block b hb hn)⟩
theorem Fr.below {B : Nat → Prop} {w w' : World} (h : Fr B w w') (hB : ∀ b,¬ B b) : Below w.heap.size w w':=⟨h.os,h.tape,h.output,h.size,fun b hb => h.block b hb (hB b)⟩
theorem Fr.of_below {B : Nat → Prop} {w w' : World} (h : Below w.heap.size w w') : Fr B w w':=⟨h.os,h.tape,h.output,h.size,fun b hb _ => h.block b hb⟩
theorem Fr.alloc {B : Nat → Prop} (w : World) (o : Obj) : Fr B w (w.alloc o):=Fr.of_below ((Below.refl _ _).alloc (Nat.le_refl _) o)
theorem Fr.drew {B : Nat → Prop} (w : World) : Fr B w w.drew:=⟨rfl,rfl,rfl,Nat.le_refl _,fun _ _ _ => rfl⟩
theorem Fr.set {B : Nat → Prop} (w : World) (p : Addr) (v : Value) (hB : B p.block) : Fr B w (w.setCell p v) :=
  ⟨rfl,rfl,rfl,by simp [World.setCell],fun b _ hn => Below.heap_setCell w p v b (fun e => hn (e ▸ hB))⟩
def Laid (w : World) : Prop:=lowB ≤ w.heap.size ∧ ∃ W,Began W ∧ ∀ b,b < lowB → w.heap[b]? = W.heap[b]?
theorem Laid.fr {B : Nat → Prop} {w w' : World} (h : Laid w) (hf : Fr B w w') (hB : ∀ b,B b → lowB ≤ b) : Laid w':=by
  obtain ⟨h0,W,h1,h2⟩:=h
  exact ⟨Nat.le_trans h0 hf.size,W,h1,fun b hb => (hf.block b (by omega) (fun h' => by have:=hB b h';omega)).trans (h2 b hb)⟩
def blkOf : O → Value → List Nat
  | .box _,.pointer (some a) => [a.block]
  | .row _ _ _ _,v => v.ownBlock.toList
  | .tree _,v => tvF v
  | _,_ => []
theorem blk_row {own : Bool} {ety e : Nat} {xs : List (List D)} {v : Value} {b : Nat} : b ∈ blkOf (.row own ety e xs) v ↔ v.ownBlock = some b:=by simp [blkOf]
def OSim (w : World) (ok : Nat → Prop) (lo : Nat) (β : List Value) : O → Value → Prop
  | .dead,_ => True
  | .box cells,v => ∃ (b : Nat) (vs : List Value) (ty : TypeId),v = .pointer (some ⟨b,0,none⟩) ∧ w.heap[b]? = some (.cells vs.toArray ty (0,0)) ∧ VSimL w ok lo β cells vs
  | .row own ety e xs,v => ∃ inner,w.ownsRow 0 ety e v xs.length inner ∧ (∀ l,l ∈ xs → l.length = e) ∧ xs.length ≤ 140737488355328 ∧ RepL w ok inner xs.flatten ∧ (own = true → (∀ b,v.ownBlock = some b → lo ≤ b) ∧ ∃ F,OwnL w inner xs.flatten F ∧ F.Nodup ∧ ∀ b,b ∈ F → ok b ∧ lo ≤ b)
  | .tree xs,v => ∃ u F,v = tv u F ∧ OwnL w [u] [.sl xs] F ∧ F.Nodup ∧ ∀ b,b ∈ F → lo ≤ b
structure Cx where
  w0 : World
  ok0 : Nat → Prop
  B0 : Nat → Prop
  n : Nat
  lo : Nat
  hlo : lo ≤ w0.heap.size
def okOf (c : Cx) (w : World) (h : List O) (β : List Value) (b : Nat) : Prop :=
  b < w.heap.size ∧ (c.ok0 b ∨ c.w0.heap.size ≤ b ∨ c.B0 b) ∧ ∀ (i : Nat) (o : O) (v : Value),h[i]? = some o → β[i]? = some v → b ∉ blkOf o v
def CxOk (c : Cx) : Prop:=Laid c.w0 ∧ (∀ b,c.B0 b → lowB ≤ b) ∧ lowB ≤ c.lo
structure Sim (c : Cx) (σ : St) (β : List Value) (a : Act) (w : World) : Prop where
  defers : a.defers = []
  size : a.tmps.size = c.n
  fr : Fr c.B0 c.w0 w
  len : β.length = σ.h.length
  vone : ∀ (i : Nat) (v : Value),β[i]? = some v → v.oneCell' = true
  obj : ∀ (i : Nat) (o : O) (v : Value),σ.h[i]? = some o → β[i]? = some v → OSim w (okOf c w σ.h β) c.lo β o v
  own : ∀ (i : Nat) (o : O) (v : Value) (b : Nat),σ.h[i]? = some o → β[i]? = some v → b ∈ blkOf o v → (c.B0 b ∨ c.w0.heap.size ≤ b) ∧ b < w.heap.size
  sep : ∀ (i j : Nat) (o o' : O) (v v' : Value) (b : Nat),i ≠ j → σ.h[i]? = some o → β[i]? = some v → σ.h[j]? = some o' → β[j]? = some v' → b ∈ blkOf o v → b ∉ blkOf o' v'
  tmp : ∀ (j : Nat),VSim w (okOf c w σ.h β) c.lo β (lkp σ.t j) (a.tmps.getD j undef)
theorem Sim.laid {c : Cx} {σ : St} {β : List Value} {a : Act} {w : World} (S : Sim c σ β a w) (h : Nonempty (CxOk c)) : Laid w:=h.elim fun h => h.1.fr S.fr h.2.1
theorem OSim.move {w w' : World} {ok ok' : Nat → Prop} {lo : Nat} {β β' : List Value} {p : Nat → Bool} (hm : ∀ b,ok b → ok' b ∧ w'.heap[b]? = w.heap[b]?)
    (hβ : ∀ i u,p i = true → β[i]? = some u → β'[i]? = some u) {o : O} {v : Value} (hf : ∀ cells,o = .box cells → A.freeL p cells = true) (hb : ∀ b,b ∈ blkOf o v → w'.heap[b]? = w.heap[b]?)
    (h : OSim w ok lo β o v) : OSim w' ok' lo β' o v:=by
  cases o with
  | dead => trivial
  | box cells =>
    obtain ⟨b,vs,ty,rfl,h1,h2⟩:=h
    exact ⟨b,vs,ty,rfl,(hb b (by simp [blkOf])).trans h1,h2.move hm (Nat.le_refl _) hβ (hf cells rfl)⟩
  | row own ety e xs =>
    obtain ⟨inner,h1,h2,h3,h4,h5⟩:=h
    refine ⟨inner,⟨h1.1,?_⟩,h2,h3,h4.move hm,fun ho => ?_⟩
    · rcases h1.2 with h|⟨g,cap,cur,rfl,hg,hh,r⟩
      · exact .inl h
      · exact .inr ⟨g,cap,cur,rfl,hg,(hb g (blk_row.2 rfl)).trans hh,r⟩
    · obtain ⟨g0,F,g1,g2,g3⟩:=h5 ho
      exact ⟨g0,F,g1.move (fun b hb => (hm b (g3 b hb).1).2),g2,fun b hb => ⟨(hm b (g3 b hb).1).1,(g3 b hb).2⟩⟩
  | tree xs =>
    obtain ⟨u,F,rfl,h1,h2,h3⟩:=h
    exact ⟨u,F,rfl,h1.move (fun b hb' => hb b (by simpa [blkOf,tvF_tv] using hb')),h2,h3⟩
section
variable {c : Cx} {σ : St} {β : List Value} {a : Act} {w w' : World}
theorem beq_no {d j : Nat} (h : d ≠ j) : Nat.beq d j = false:=by
  cases hb : Nat.beq d j with
  | false => rfl
  | true => exact absurd (Nat.eq_of_beq_eq_true hb) h
theorem getD_put (a : Act) (d j : Nat) (v : Value) (hd : d < a.tmps.size) : (a.put (some d) v).tmps.getD j undef = if d = j then v else a.tmps.getD j undef:=by
  simp only [Act.put,Array.getD_eq_getD_getElem?,Array.getElem?_setIfInBounds]
  by_cases h : d = j
  · subst h;simp [hd]
  · simp [h]
theorem Sim.put (S : Sim c σ β a w) {d : Nat} (hd : d < c.n) {x : A} {v : Value} (hx : VSim w (okOf c w σ.h β) c.lo β x v) : Sim c (σ.put d x) β (a.put (some d) v) w where
  defers:=S.defers
  size:=by simp only [Act.put,Array.size_setIfInBounds];exact S.size
  fr:=S.fr
  len:=S.len
  vone:=S.vone
  obj:=S.obj
  own:=S.own
  sep:=S.sep
  tmp:=fun j => by
    rw [getD_put a d j v (by rw [S.size];exact hd)]
    show VSim _ _ _ _ (bif Nat.beq d j then x else lkp σ.t j) _
    by_cases h : d = j
    · subst h;rw [Nat.beq_refl,if_pos rfl];exact hx
    · rw [beq_no h,if_neg h];exact S.tmp j
theorem Sim.re (S : Sim c σ β a w) {d : Nat} {x : A} (hx : VSim w (okOf c w σ.h β) c.lo β x (a.tmps.getD d undef)) : Sim c (σ.put d x) β a w where
  defers:=S.defers
  size:=S.size
  fr:=S.fr
  len:=S.len
  vone:=S.vone
  obj:=S.obj
  own:=S.own
  sep:=S.sep
  tmp:=fun j => by
    show VSim _ _ _ _ (bif Nat.beq d j then x else lkp σ.t j) _
    by_cases h : d = j
    · subst h;rw [Nat.beq_refl];exact hx
    · rw [beq_no h];exact S.tmp j
theorem Sim.weak (S : Sim c σ β a w) {t : List (Nat × A)} (h : ∀ j,lkp t j = .any ∨ lkp t j = lkp σ.t j) : Sim c ⟨t,σ.h⟩ β a w where
  defers:=S.defers
  size:=S.size
  fr:=S.fr
  len:=S.len
  vone:=S.vone
  obj:=S.obj
  own:=S.own
  sep:=S.sep
  tmp:=fun j => by
    show VSim _ _ _ _ (lkp t j) _
    rcases h j with h|h <;> rw [h]
    · simp [VSim]
    · exact S.tmp j
theorem Sim.ext (S : Sim c σ β a w) (h : Fr (fun _ => False) w w') : Sim c σ β a w':=by
  have hm : ∀ b,okOf c w σ.h β b → okOf c w' σ.h β b ∧ w'.heap[b]? = w.heap[b]?:=fun b hb => ⟨⟨Nat.lt_of_lt_of_le hb.1 h.size,hb.2⟩,h.block b hb.1 (fun h => h)⟩
  refine ⟨S.defers,S.size,S.fr.trans h (fun _ _ h => h.elim),S.len,S.vone,fun i o v h1 h2 => ?_,fun i o v b h1 h2 h3 => ?_,S.sep,fun j => ?_⟩
  · exact (S.obj i o v h1 h2).move (p:=fun _ => true) hm (fun _ _ _ h => h) (fun cells _ => A.freeL_true _) (fun b hb => h.block b (S.own i o v b h1 h2 hb).2 (fun h => h))
  · have:=S.own i o v b h1 h2 h3
    exact ⟨this.1,Nat.lt_of_lt_of_le this.2 h.size⟩
  · exact (S.tmp j).move (p:=fun _ => true) hm (Nat.le_refl _) (fun _ _ _ h => h) (A.free_true _)
theorem get_snoc {α : Type} {l : List α} {x y : α} {i : Nat} (h : (l ++ [x])[i]? = some y) : l[i]? = some y ∨ (i = l.length ∧ y = x):=by
  rcases Nat.lt_or_ge i l.length with hi|hi
  · exact .inl (by rwa [List.getElem?_append_left hi] at h)
  · rw [List.getElem?_append_right hi] at h
    have h0 : i - l.length = 0:=by
      have:=(List.getElem?_eq_some_iff.1 h).1
      simp at this;omega
    rw [h0] at h
    simp only [List.getElem?_cons_zero,Option.some.injEq] at h
    exact .inr ⟨by omega,h.symm⟩
theorem Sim.new (S : Sim c σ β a w) (h : Fr (fun _ => False) w w') {o : O} {v : Value} (hv1 : v.oneCell' = true) (hb : ∀ b,b ∈ blkOf o v → w.heap.size ≤ b ∧ b < w'.heap.size)
    (ho : (∀ b,okOf c w σ.h β b → okOf c w' (σ.h ++ [o]) (β ++ [v]) b) → OSim w' (okOf c w' (σ.h ++ [o]) (β ++ [v])) c.lo (β ++ [v]) o v) : Sim c ⟨σ.t,σ.h ++ [o]⟩ (β ++ [v]) a w':=by
  have hl:=S.len
  have hβ : ∀ i u,(fun _ : Nat => true) i = true → β[i]? = some u → (β ++ [v])[i]? = some u:=fun i u _ hi => by
    rw [List.getElem?_append_left (List.getElem?_eq_some_iff.1 hi).1];exact hi
  have two : ∀ {i : Nat} {o' : O} {v' : Value},(σ.h ++ [o])[i]? = some o' → (β ++ [v])[i]? = some v' → (σ.h[i]? = some o' ∧ β[i]? = some v') ∨ (i = σ.h.length ∧ o' = o ∧ v' = v):=by
    intro i o' v' h1 h2
    rcases get_snoc h1 with h1|⟨h1,h1'⟩
    · rcases get_snoc h2 with h2|⟨h2,_⟩
      · exact .inl ⟨h1,h2⟩
      · have:=(List.getElem?_eq_some_iff.1 h1).1
        omega
    · rcases get_snoc h2 with h2|⟨_,h2'⟩
      · have:=(List.getElem?_eq_some_iff.1 h2).1
        omega
      · exact .inr ⟨h1,h1',h2'⟩
  have hm : ∀ b,okOf c w σ.h β b → okOf c w' (σ.h ++ [o]) (β ++ [v]) b ∧ w'.heap[b]? = w.heap[b]?:=by
    intro b hk
    refine ⟨⟨Nat.lt_of_lt_of_le hk.1 h.size,hk.2.1,fun i o' v' h1 h2 h3 => ?_⟩,h.block b hk.1 (fun h => h)⟩
    rcases two h1 h2 with ⟨h1,h2⟩|⟨_,rfl,rfl⟩
    · exact hk.2.2 i o' v' h1 h2 h3
    · have:=(hb b h3).1
      have:=hk.1
      omega
  refine ⟨S.defers,S.size,S.fr.trans h (fun _ _ h => h.elim),by simp [S.len],fun i u hu => ?_,fun i o' v' h1 h2 => ?_,fun i o' v' b h1 h2 h3 => ?_,fun i j o1 o2 v1 v2 b hij h1 h2 h3 h4 h5 h6 => ?_,fun j => ?_⟩
  · rcases get_snoc hu with hu|⟨_,rfl⟩
    · exact S.vone i u hu
    · exact hv1
  · rcases two h1 h2 with ⟨h1,h2⟩|⟨_,rfl,rfl⟩
    · exact (S.obj i o' v' h1 h2).move (p:=fun _ => true) hm hβ (fun cells _ => A.freeL_true _) (fun b hb => h.block b (S.own i o' v' b h1 h2 hb).2 (fun h => h))
    · exact ho (fun b hb => (hm b hb).1)
  · rcases two h1 h2 with ⟨h1,h2⟩|⟨_,rfl,rfl⟩
    · have:=S.own i o' v' b h1 h2 h3
      exact ⟨this.1,Nat.lt_of_lt_of_le this.2 h.size⟩
    · have:=hb b h3
      exact ⟨.inr (Nat.le_trans S.fr.size this.1),this.2⟩
  · rcases two h1 h2 with ⟨g1,g2⟩|⟨hi,e1,e2⟩ <;> rcases two h3 h4 with ⟨g3,g4⟩|⟨hj,e3,e4⟩
    · exact S.sep i j o1 o2 v1 v2 b hij g1 g2 g3 g4 h5 h6
    · subst e3;subst e4
      have:=(hb b h6).1
      have:=(S.own i o1 v1 b g1 g2 h5).2
      omega
    · subst e1;subst e2
      have:=(hb b h5).1
      have:=(S.own j o2 v2 b g3 g4 h6).2
      omega
    · omega
  · exact (S.tmp j).move (p:=fun _ => true) hm (Nat.le_refl _) hβ (A.free_true _)
theorem Sim.newBox (S : Sim c σ β a w) {cells : List A} {vs : List Value} (ty : TypeId) (hv : VSimL w (okOf c w σ.h β) c.lo β cells vs) :
    Sim c ⟨σ.t,σ.h ++ [.box cells]⟩ (β ++ [.pointer (some ⟨w.heap.size,0,none⟩)]) a (w.alloc (.cells vs.toArray ty)):=by
  refine S.new (Fr.alloc w _) rfl (fun b hb => ?_) (fun hk => ⟨w.heap.size,vs,ty,rfl,heap_alloc_new w _,?_⟩)
  · simp only [blkOf,List.mem_singleton] at hb
    subst hb
    simp
  · refine hv.move (p:=fun _ => true) (fun b hb => ⟨hk b hb,Below.heap_alloc w _ b hb.1⟩) (Nat.le_refl _) (fun i u _ hi => ?_) (A.freeL_true _)
    rw [List.getElem?_append_left (List.getElem?_eq_some_iff.1 hi).1];exact hi
theorem Sim.store (S : Sim c σ β a w) {i k : Nat} {cells : List A} (hi : σ.h[i]? = some (.box cells)) {b : Nat} (hb : β[i]? = some (.pointer (some ⟨b,0,none⟩))) {x : A} {v : Value}
    (hx : VSim w (okOf c w σ.h β) c.lo β x v) : Sim c ⟨σ.t,σ.h.set i (.box (cells.set k x))⟩ β a (w.setCell ⟨b,k,none⟩ v) ∧
      ∀ b',okOf c w σ.h β b' → okOf c (w.setCell ⟨b,k,none⟩ v) (σ.h.set i (.box (cells.set k x))) β b' ∧ (w.setCell ⟨b,k,none⟩ v).heap[b']? = w.heap[b']?:=by
  have hil:=(List.getElem?_eq_some_iff.1 hi).1
  have hblk : ∀ b',b' ≠ b → (w.setCell ⟨b,k,none⟩ v).heap[b']? = w.heap[b']?:=fun b' h => Below.heap_setCell w ⟨b,k,none⟩ v b' h
  have hsz : (w.setCell ⟨b,k,none⟩ v).heap.size = w.heap.size:=by simp [World.setCell]
  have hget : ∀ {j : Nat} {o : O},(σ.h.set i (.box (cells.set k x)))[j]? = some o → (j = i ∧ o = .box (cells.set k x)) ∨ (j ≠ i ∧ σ.h[j]? = some o):=by
    intro j o h
    by_cases hj : i = j
    · subst hj
      rw [List.getElem?_set_self hil] at h
      exact .inl ⟨rfl,by simpa using h.symm⟩
    · rw [List.getElem?_set_ne hj] at h
      exact .inr ⟨fun e => hj e.symm,h⟩
  have hiff : ∀ {j : Nat} {o : O} {v' : Value} {b' : Nat},(σ.h.set i (.box (cells.set k x)))[j]? = some o → β[j]? = some v' → b' ∈ blkOf o v' → ∃ o',σ.h[j]? = some o' ∧ b' ∈ blkOf o' v':=by
    intro j o v' b' h1 h2 h3
    rcases hget h1 with ⟨rfl,rfl⟩|⟨_,h1⟩
    · rw [hb] at h2
      injection h2 with h2
      subst h2
      exact ⟨_,hi,h3⟩
    · exact ⟨o,h1,h3⟩
  have hok : ∀ b',okOf c w σ.h β b' → okOf c (w.setCell ⟨b,k,none⟩ v) (σ.h.set i (.box (cells.set k x))) β b' ∧ (w.setCell ⟨b,k,none⟩ v).heap[b']? = w.heap[b']?:=by
    intro b' hk
    refine ⟨⟨by rw [hsz];exact hk.1,hk.2.1,fun j o v' h1 h2 h3 => ?_⟩,hblk b' ?_⟩
    · obtain ⟨o',h1',h3'⟩:=hiff h1 h2 h3
      exact hk.2.2 j o' v' h1' h2 h3'
    · intro e
      exact hk.2.2 i _ _ hi hb (by simp [blkOf,e])
  have hfr:=(S.own i _ _ b hi hb (by simp [blkOf])).1
  refine ⟨⟨S.defers,S.size,?_,by simp [S.len],S.vone,fun j o v' h1 h2 => ?_,fun j o v' b' h1 h2 h3 => ?_,fun j j' o o' v1 v2 b' hjj h1 h2 h3 h4 h5 h6 => ?_,fun j => ?_⟩,hok⟩
  · refine S.fr.trans (Fr.set (B:=fun b' => b' = b) w ⟨b,k,none⟩ v rfl) (fun b' hlt he => ?_)
    subst he
    rcases hfr with h|h
    · exact h
    · omega
  · rcases hget h1 with ⟨rfl,rfl⟩|⟨hj,h1⟩
    · rw [hb] at h2
      injection h2 with h2
      subst h2
      obtain ⟨b',vs,ty,he,h1',h2'⟩:=S.obj j _ _ hi hb
      injection he with he
      injection he with he
      injection he with he
      subst he
      refine ⟨b,vs.set k v,ty,rfl,?_,(hx.move (p:=fun _ => true) hok (Nat.le_refl _) (fun _ _ _ h => h) (A.free_true _) |> fun hx' => VSimL.set hx' k (h2'.move (p:=fun _ => true) hok (Nat.le_refl _) (fun _ _ _ h => h) (A.freeL_true _)))⟩
      simp only [World.setCell,Array.getElem?_modify,h1',if_true,Option.map_some,Option.isSome_none,Bool.false_eq_true,if_false,Option.some.injEq,Obj.cells.injEq,and_true]
      simp [List.setIfInBounds_toArray]
    · refine (S.obj j o v' h1 h2).move (p:=fun _ => true) hok (fun _ _ _ h => h) (fun cells _ => A.freeL_true _) (fun b' hb' => hblk b' (fun e => ?_))
      subst e
      exact S.sep j i o _ v' _ b' hj h1 h2 hi hb hb' (by simp [blkOf])
  · obtain ⟨o',h1',h3'⟩:=hiff h1 h2 h3
    rw [hsz]
    exact S.own j o' v' b' h1' h2 h3'
  · obtain ⟨p,h1',h5'⟩:=hiff h1 h2 h5
    obtain ⟨p',h3',h6'⟩:=hiff h3 h4 h6
    exact S.sep j j' p p' v1 v2 b' hjj h1' h2 h3' h4 h5' h6'
  · exact (S.tmp j).move (p:=fun _ => true) hok (Nat.le_refl _) (fun _ _ _ h => h) (A.free_true _)
theorem Sim.change (S : Sim c σ β a w) {i : Nat} {o o' : O} {v v' : Value} {p : Nat → Bool} {t : List (Nat × A)} {h' : List O}
    (hi : σ.h[i]? = some o) (hv : β[i]? = some v) (hv1 : v'.oneCell' = true) (hβ : ∀ j u,p j = true → β[j]? = some u → (β.set i v')[j]? = some u)
    (hfr : Fr (fun b => b ∈ blkOf o v) w w')
    (hb : ∀ b,b ∈ blkOf o' v' → b ∈ blkOf o v ∨ (w.heap.size ≤ b ∧ b < w'.heap.size))
    (ht : ∀ j,lkp t j = .any ∨ (lkp t j = lkp σ.t j ∧ (lkp t j).free p = true))
    (hl : h'.length = σ.h.length) (hi' : h'[i]? = some o')
    (hh : ∀ j q,j ≠ i → h'[j]? = some q → (∃ q',σ.h[j]? = some q' ∧ (∀ u,blkOf q u = blkOf q' u) ∧ ((q = q' ∧ ∀ cells,q = .box cells → A.freeL p cells = true) ∨ (∃ cells cells',q' = .box cells' ∧ q = .box cells ∧ cells.length = cells'.length ∧ ∀ (k : Nat) (y : A),cells[k]? = some y → y = .any ∨ (cells'[k]? = some y ∧ y.free p = true)))))
    (ho : (∀ b,okOf c w σ.h β b → okOf c w' h' (β.set i v') b ∧ w'.heap[b]? = w.heap[b]?) → OSim w' (okOf c w' h' (β.set i v')) c.lo (β.set i v') o' v') : Sim c ⟨t,h'⟩ (β.set i v') a w':=by
  have hil:=(List.getElem?_eq_some_iff.1 hi).1
  have hvl:=(List.getElem?_eq_some_iff.1 hv).1
  have vget : ∀ {j : Nat} {u : Value},(β.set i v')[j]? = some u → (j = i ∧ u = v') ∨ (j ≠ i ∧ β[j]? = some u):=by
    intro j u h
    by_cases hj : i = j
    · subst hj
      rw [List.getElem?_set_self hvl] at h
      exact .inl ⟨rfl,by simpa using h.symm⟩
    · rw [List.getElem?_set_ne hj] at h
      exact .inr ⟨fun e => hj e.symm,h⟩
  have two : ∀ {j : Nat} {q : O} {u : Value} {b : Nat},h'[j]? = some q → (β.set i v')[j]? = some u → b ∈ blkOf q u →
      (∃ q' u',σ.h[j]? = some q' ∧ β[j]? = some u' ∧ b ∈ blkOf q' u') ∨ (j = i ∧ w.heap.size ≤ b ∧ b < w'.heap.size):=by
    intro j q u b h1 h2 h3
    rcases vget h2 with ⟨rfl,rfl⟩|⟨hj,h2⟩
    · rw [hi'] at h1
      injection h1 with h1
      subst h1
      rcases hb b h3 with h|h
      · exact .inl ⟨o,v,hi,hv,h⟩
      · exact .inr ⟨rfl,h⟩
    · obtain ⟨q',g1,g2,_⟩:=hh j q hj h1
      exact .inl ⟨q',u,g1,h2,by rw [← g2];exact h3⟩
  have hm : ∀ b,okOf c w σ.h β b → okOf c w' h' (β.set i v') b ∧ w'.heap[b]? = w.heap[b]?:=by
    intro b hk
    refine ⟨⟨Nat.lt_of_lt_of_le hk.1 hfr.size,hk.2.1,fun j q u h1 h2 h3 => ?_⟩,hfr.block b hk.1 (fun h => hk.2.2 i o v hi hv h)⟩
    rcases two h1 h2 h3 with ⟨q',u',g1,g2,g3⟩|⟨_,h⟩
    · exact hk.2.2 j q' u' g1 g2 g3
    · have:=hk.1
      omega
  refine ⟨S.defers,S.size,?_,by simp [S.len,hl],fun j u hu => ?_,fun j q u h1 h2 => ?_,fun j q u b h1 h2 h3 => ?_,fun j j' q q1 u u1 b hjj h1 h2 h3 h4 h5 h6 => ?_,fun j => ?_⟩
  · refine S.fr.trans hfr (fun b hlt he => ?_)
    have:=(S.own i o v b hi hv he).1
    rcases this with h|h
    · exact h
    · omega
  · rcases vget hu with ⟨_,rfl⟩|⟨_,hu⟩
    · exact hv1
    · exact S.vone j u hu
  · rcases vget h2 with ⟨rfl,rfl⟩|⟨hj,h2⟩
    · rw [hi'] at h1
      injection h1 with h1
      subst h1
      exact ho hm
    · obtain ⟨q',g1,g2,g3⟩:=hh j q hj h1
      have hbl : ∀ b,b ∈ blkOf q u → w'.heap[b]? = w.heap[b]?:=fun b hb' => by
        rw [g2] at hb'
        refine hfr.block b (S.own j q' u b g1 h2 hb').2 (fun he => S.sep j i q' o u v b hj g1 h2 hi hv hb' he)
      rcases g3 with ⟨rfl,g3⟩|⟨cells,cells',rfl,rfl,hlen,g3⟩
      · exact (S.obj j q u g1 h2).move (p:=p) hm hβ g3 hbl
      · obtain ⟨b,vs,ty,rfl,k1,k2⟩:=S.obj j _ u g1 h2
        refine ⟨b,vs,ty,rfl,(hbl b (by simp [blkOf])).trans k1,VSimL.of_get (by rw [VSimL.length k2,hlen]) (fun k y u hy hu => ?_)⟩
        rcases g3 k y hy with rfl|⟨hy',hf⟩
        · simp [VSim]
        · obtain ⟨u',hu',hs⟩:=k2.get hy'
          rw [hu] at hu'
          injection hu' with hu'
          subst hu'
          exact hs.move (p:=p) hm (Nat.le_refl _) hβ hf
  · rcases two h1 h2 h3 with ⟨q',u',g1,g2,g3⟩|⟨_,h,h'⟩
    · have:=S.own j q' u' b g1 g2 g3
      exact ⟨this.1,Nat.lt_of_lt_of_le this.2 hfr.size⟩
    · exact ⟨.inr (Nat.le_trans S.fr.size h),h'⟩
  · rcases two h1 h2 h5 with ⟨q',u',g1,g2,g3⟩|⟨hj,h,_⟩ <;> rcases two h3 h4 h6 with ⟨q2,u2,k1,k2,k3⟩|⟨hj',h',_⟩
    · exact S.sep j j' q' q2 u' u2 b hjj g1 g2 k1 k2 g3 k3
    · have:=(S.own j q' u' b g1 g2 g3).2
      omega
    · have:=(S.own j' q2 u2 b k1 k2 k3).2
      omega
    · omega
  · show VSim _ _ _ _ (lkp t j) _
    rcases ht j with h|⟨h,hf⟩
    · rw [h];simp [VSim]
    · have:=S.tmp j
      rw [← h] at this
      exact this.move (p:=p) hm (Nat.le_refl _) hβ hf
end
end Go.Proofs.YtlddcimpdkcgeaaGreatDoor.Sym
namespace Go.Proofs.YtlddcimpdkcgeaaGreatDoor.Sym
open Nat (zero_add)
open Go.RowKit
mutual
def A.sub (i : Nat) (y t : A) (z : Nat → A) : A → A
  | .osl j => bif Nat.beq i j then y else .osl j
  | .otr j => bif Nat.beq i j then t else .otr j
  | .ptr j off => bif Nat.beq i j then z off else .ptr j off
  | .optr j k e off => bif Nat.beq i j then .any else .optr j k e off
  | .fn f cap => .fn f (A.subL i y t z cap)
  | .agg xs => .agg (A.subL i y t z xs)
  | .tup xs => .tup (A.subL i y t z xs)
  | .opt g x => .opt g (A.sub i y t z x)
  | .any => .any
  | .d o x => .d o x
  | .ep ds off => .ep ds off
  | .nil => .nil
  | .pin j u => .pin j u
def A.subL (i : Nat) (y t : A) (z : Nat → A) : List A → List A
  | [] => []
  | x :: xs => A.sub i y t z x :: A.subL i y t z xs
end
def O.sub (i : Nat) (y t : A) (z : Nat → A) : O → O
  | .box cells => .box (A.subL i y t z cells)
  | .row own ety e xs => .row own ety e xs
  | .tree xs => .tree xs
  | .dead => .dead
def subT (i : Nat) (y t : A) (z : Nat → A) : List (Nat × A) → List (Nat × A)
  | [] => []
  | (k,x) :: r => (k,A.sub i y t z x) :: subT i y t z r
def subH (i : Nat) (y t : A) (z : Nat → A) : Nat → List O → List O
  | _,[] => []
  | n,o :: h => (bif Nat.beq i n then .dead else O.sub i y t z o) :: subH i y t z (n + 1) h
def dsOf : List A → Option (List D)
  | [] => some []
  | .d _ x :: r => match dsOf r with|some ds => some (x :: ds)|none => none
  | .nil :: r => match dsOf r with|some ds => some (.sl [] :: ds)|none => none
  | _ :: _ => none
def frzY : O → A
  | .row own _ _ xs => .d own (.sl xs)
  | _ => .any
def frzT : O → A
  | .tree xs => .d true (.sl xs)
  | _ => .any
def frzZ : O → Nat → A
  | .box cells,off => match dsOf cells with|some ds => .ep ds off|none => .any
  | _,_ => .any
def St.frz (σ : St) (i : Nat) : St :=
  match σ.h[i]? with
  | some o => ⟨subT i (frzY o) (frzT o) (frzZ o) σ.t,subH i (frzY o) (frzT o) (frzZ o) 0 σ.h⟩
  | none => σ
def St.frzs (σ : St) : List Nat → St
  | [] => σ
  | i :: r => (σ.frz i).frzs r
mutual
def A.ids : A → List Nat
  | .osl j => [j]
  | .otr _ => []
  | .ptr j _ => [j]
  | .optr j _ _ _ => [j]
  | .fn _ cap => A.idsL cap
  | .agg xs => A.idsL xs
  | .tup xs => A.idsL xs
  | .opt _ x => A.ids x
  | .any => []
  | .d _ _ => []
  | .ep _ _ => []
  | .nil => []
  | .pin _ _ => []
def A.idsL : List A → List Nat
  | [] => []
  | x :: xs => A.ids x ++ A.idsL xs
end
theorem lkp_subT (i : Nat) (y t : A) (z : Nat → A) (j : Nat) : ∀ l : List (Nat × A),lkp (subT i y t z l) j = A.sub i y t z (lkp l j)
  | [] => rfl
  | (k,x) :: l => by
    simp only [subT,lkp]
    cases Nat.beq k j with
    | true => rfl
    | false => exact lkp_subT i y t z j l
theorem get_subH (i : Nat) (y t : A) (z : Nat → A) : ∀ (h : List O) (n j : Nat),(subH i y t z n h)[j]? = (h[j]?).map (fun o => bif Nat.beq i (n + j) then .dead else O.sub i y t z o)
  | [],n,j => by simp [subH]
  | o :: h,n,0 => by simp [subH]
  | o :: h,n,j + 1 => by
    simp only [subH,List.getElem?_cons_succ,get_subH i y t z h (n + 1) j]
    rw [show n + 1 + j = n + (j + 1) by omega]
theorem len_subH (i : Nat) (y t : A) (z : Nat → A) : ∀ (h : List O) (n : Nat),(subH i y t z n h).length = h.length
  | [],_ => rfl
  | o :: h,n => by simp [subH,len_subH i y t z h (n + 1)]
mutual
theorem VSim.sub {w : World} {ok ok' : Nat → Prop} {lo : Nat} {β : List Value} {i : Nat} {y t : A} {z : Nat → A} (hm : ∀ b,ok b → ok' b)
    (hy : ∀ v,β[i]? = some v → VSim w ok' lo β y v) (ht : ∀ v F,β[i]? = some (tv v F) → VSim w ok' lo β t v) (hz : ∀ b off,β[i]? = some (.pointer (some ⟨b,0,none⟩)) → VSim w ok' lo β (z off) (.pointer (some ⟨b,off,none⟩))) :
    ∀ {x : A} {v : Value},VSim w ok lo β x v → VSim w ok' lo β (A.sub i y t z x) v
  | .osl j,v,h => by
    simp only [A.sub]
    by_cases hj : i = j
    · subst hj;rw [Nat.beq_refl];simp only [VSim] at h;exact hy v h
    · rw [beq_no hj];simp only [VSim,cond_false] at h ⊢;exact h
  | .otr j,v,h => by
    simp only [A.sub]
    by_cases hj : i = j
    · subst hj;rw [Nat.beq_refl];simp only [VSim] at h;exact ht v _ h.1.choose_spec
    · rw [beq_no hj];simp only [VSim,cond_false] at h ⊢;exact h
  | .ptr j off,v,h => by
    simp only [A.sub]
    by_cases hj : i = j
    · subst hj;rw [Nat.beq_refl];simp only [VSim] at h
      obtain ⟨b,h1,rfl⟩:=h
      exact hz b off h1
    · rw [beq_no hj];simp only [VSim,cond_false] at h ⊢;exact h
  | .optr j k e off,v,h => by
    simp only [A.sub]
    by_cases hj : i = j
    · subst hj;rw [Nat.beq_refl];simp [VSim]
    · rw [beq_no hj];simp only [VSim,cond_false] at h ⊢;exact h
  | .fn f cap,v,h => by
    simp only [A.sub,VSim] at h ⊢
    obtain ⟨vs,h1,h2⟩:=h
    exact ⟨vs,h1,VSimL.sub hm hy ht hz h2⟩
  | .agg xs,v,h => by
    simp only [A.sub,VSim] at h ⊢
    obtain ⟨vs,h1,h2⟩:=h
    exact ⟨vs,h1,VSimL.sub hm hy ht hz h2⟩
  | .tup xs,v,h => by
    simp only [A.sub,VSim] at h ⊢
    obtain ⟨vs,h1,h2⟩:=h
    exact ⟨vs,h1,VSimL.sub hm hy ht hz h2⟩
  | .opt g x,v,h => by
    simp only [A.sub,VSim] at h ⊢
    exact ⟨fun hg => VSim.sub hm hy ht hz (h.1 hg),h.2⟩
  | .any,v,h => by simp [A.sub,VSim]
  | .d o x,v,h => by
    simp only [A.sub]
    exact h.move (p:=fun _ => true) (fun b hb => ⟨hm b hb,rfl⟩) (Nat.le_refl _) (fun _ _ _ h => h) (A.free_true _)
  | .ep ds off,v,h => by
    simp only [A.sub]
    exact h.move (p:=fun _ => true) (fun b hb => ⟨hm b hb,rfl⟩) (Nat.le_refl _) (fun _ _ _ h => h) (A.free_true _)
  | .nil,v,h => by simp only [A.sub,VSim] at h ⊢;exact h
  | .pin j u,v,h => by simp only [A.sub,VSim] at h ⊢;exact h
theorem VSimL.sub {w : World} {ok ok' : Nat → Prop} {lo : Nat} {β : List Value} {i : Nat} {y t : A} {z : Nat → A} (hm : ∀ b,ok b → ok' b)
    (hy : ∀ v,β[i]? = some v → VSim w ok' lo β y v) (ht : ∀ v F,β[i]? = some (tv v F) → VSim w ok' lo β t v) (hz : ∀ b off,β[i]? = some (.pointer (some ⟨b,0,none⟩)) → VSim w ok' lo β (z off) (.pointer (some ⟨b,off,none⟩))) :
    ∀ {xs : List A} {vs : List Value},VSimL w ok lo β xs vs → VSimL w ok' lo β (A.subL i y t z xs) vs
  | [],[],_ => by simp [A.subL,VSimL]
  | x :: xs,v :: vs,h => by
    simp only [A.subL,VSimL] at h ⊢
    exact ⟨VSim.sub hm hy ht hz h.1,VSimL.sub hm hy ht hz h.2⟩
  | [],_ :: _,h => by simp [VSimL] at h
  | _ :: _,[],h => by simp [VSimL] at h
end
theorem VSimL.ds {w : World} {ok : Nat → Prop} {lo : Nat} {β : List Value} : ∀ {xs : List A} {vs : List Value} {ds : List D},dsOf xs = some ds → VSimL w ok lo β xs vs → RepL w ok vs ds
  | [],[],ds,h,_ => by
    simp only [dsOf,Option.some.injEq] at h
    subst h;trivial
  | .d o x :: r,v :: vs,ds,h,hs => by
    simp only [dsOf] at h
    split at h
    · rename_i ds' hd
      simp only [Option.some.injEq] at h
      subst h
      simp only [VSimL] at hs
      exact ⟨hs.1.read,VSimL.ds hd hs.2⟩
    · cases h
  | .nil :: r,v :: vs,ds,h,hs => by
    simp only [dsOf] at h
    split at h
    · rename_i ds' hd
      simp only [Option.some.injEq] at h
      subst h
      simp only [VSimL,VSim] at hs
      exact ⟨hs.1 ▸ Rep.nil _ _ _ _,VSimL.ds hd hs.2⟩
    · cases h
  | [],_ :: _,_,_,h => by simp [VSimL] at h
  | _ :: _,[],_,_,h => by simp [VSimL] at h
  | .any :: _,_ :: _,_,h,_ => by simp [dsOf] at h
  | .ptr _ _ :: _,_ :: _,_,h,_ => by simp [dsOf] at h
  | .osl _ :: _,_ :: _,_,h,_ => by simp [dsOf] at h
  | .otr _ :: _,_ :: _,_,h,_ => by simp [dsOf] at h
  | .optr _ _ _ _ :: _,_ :: _,_,h,_ => by simp [dsOf] at h
  | .ep _ _ :: _,_ :: _,_,h,_ => by simp [dsOf] at h
  | .fn _ _ :: _,_ :: _,_,h,_ => by simp [dsOf] at h
  | .agg _ :: _,_ :: _,_,h,_ => by simp [dsOf] at h
  | .tup _ :: _,_ :: _,_,h,_ => by simp [dsOf] at h
  | .opt _ _ :: _,_ :: _,_,h,_ => by simp [dsOf] at h
  | .pin _ _ :: _,_ :: _,_,h,_ => by simp [dsOf] at h
section
variable {c : Cx} {σ : St} {β : List Value} {a : Act} {w w' : World}
theorem Sim.frz (S : Sim c σ β a w) (i : Nat) : Sim c (σ.frz i) β a w:=by
  unfold St.frz
  cases hi : σ.h[i]? with
  | none => exact S
  | some o =>
  simp only
  have hil:=(List.getElem?_eq_some_iff.1 hi).1
  obtain ⟨v,hv⟩ : ∃ v,β[i]? = some v:=⟨_,List.getElem?_eq_getElem (show i < β.length by rw [S.len];exact hil)⟩
  have hget : ∀ {j : Nat} {q : O},(subH i (frzY o) (frzT o) (frzZ o) 0 σ.h)[j]? = some q → ∃ q',σ.h[j]? = some q' ∧ ((j = i ∧ q = .dead) ∨ (j ≠ i ∧ q = q'.sub i (frzY o) (frzT o) (frzZ o))):=by
    intro j q h
    rw [get_subH,zero_add] at h
    obtain ⟨q',h1,h2⟩:=Option.map_eq_some_iff.1 h
    refine ⟨q',h1,?_⟩
    by_cases hj : i = j
    · subst hj;rw [Nat.beq_refl] at h2;exact .inl ⟨rfl,h2.symm⟩
    · rw [beq_no hj] at h2;exact .inr ⟨fun e => hj e.symm,h2.symm⟩
  have hblk : ∀ (q : O) (u : Value),blkOf (q.sub i (frzY o) (frzT o) (frzZ o)) u = blkOf q u:=fun q u => by cases q <;> cases u <;> first|rfl|(rename_i a;cases a <;> rfl)
  have hm : ∀ b,okOf c w σ.h β b → okOf c w (subH i (frzY o) (frzT o) (frzZ o) 0 σ.h) β b:=by
    intro b hk
    refine ⟨hk.1,hk.2.1,fun j q u h1 h2 h3 => ?_⟩
    obtain ⟨q',g1,⟨rfl,rfl⟩|⟨hj,rfl⟩⟩:=hget h1
    · simp [blkOf] at h3
    · exact hk.2.2 j q' u g1 h2 (by rw [← hblk];exact h3)
  have hself : ∀ b,b ∈ blkOf o v → okOf c w (subH i (frzY o) (frzT o) (frzZ o) 0 σ.h) β b:=by
    intro b hb
    have h0:=S.own i o v b hi hv hb
    refine ⟨h0.2,?_,fun j q u h1 h2 h3 => ?_⟩
    · rcases h0.1 with h|h
      · exact .inr (.inr h)
      · exact .inr (.inl h)
    · obtain ⟨q',g1,⟨rfl,rfl⟩|⟨hj,rfl⟩⟩:=hget h1
      · simp [blkOf] at h3
      · rw [hblk] at h3
        exact S.sep i j o q' v u b (fun e => hj e.symm) hi hv g1 h2 hb h3
  have ho:=S.obj i o v hi hv
  have hy : ∀ u,β[i]? = some u → VSim w (okOf c w (subH i (frzY o) (frzT o) (frzZ o) 0 σ.h) β) c.lo β (frzY o) u:=by
    intro u hu
    rw [hv] at hu
    injection hu with hu
    subst hu
    cases o with
    | dead => simp [frzY,VSim]
    | box cells => simp [frzY,VSim]
    | tree xs => simp [frzY,VSim]
    | row own ety e xs =>
      obtain ⟨inner,h1,h2,h3,h4,h5⟩:=ho
      cases own with
      | false =>
        simp only [frzY,VSim]
        rcases h1.2 with ⟨rfl,h⟩|⟨g,cap,cur,rfl,hg,hh,hn,hc,hs,ht⟩
        · have:=List.eq_nil_of_length_eq_zero h
          subst this
          exact Rep.nil _ _ _ _
        · refine Rep.of_cells (us:=inner) hn h3 h2 (hself g (blk_row.2 rfl)) (fun k u hu => ?_) (h4.move (fun b hb => ⟨hm b hb,rfl⟩))
          rw [← ht,List.getElem?_take] at hu
          split at hu
          · rw [zero_add,World.cell?,hh]
            simpa using hu
          · cases hu
      | true =>
        obtain ⟨g0,F,g1,g2,g3⟩:=h5 rfl
        simp only [frzY,VSim]
        rcases h1.2 with ⟨rfl,h⟩|⟨g,cap,cur,rfl,hg,hh,hn,hc,hs,ht⟩
        · have:=List.eq_nil_of_length_eq_zero h
          subst this
          exact ⟨[],.none _ _ [] [] [] .nil,List.nodup_nil,fun b hb => by cases hb⟩
        · rcases Nat.eq_zero_or_pos xs.length with hz|hz
          · have:=List.eq_nil_of_length_eq_zero hz
            subst this
            exact ⟨[],.none _ _ [] [] [] .nil,List.nodup_nil,fun b hb => by cases hb⟩
          refine ⟨g :: (F ++ []),.sl g cap cur ety e xs [] [] F [] hz hh h2 hn hc hs h3 (by rw [ht];exact g1) .nil,?_,fun b hb => ?_⟩
          · rw [List.append_nil,List.nodup_cons]
            exact ⟨fun hgF => (g3 g hgF).1.2.2 i _ _ hi hv (blk_row.2 rfl),g2⟩
          · rw [List.append_nil] at hb
            rcases List.mem_cons.1 hb with rfl|hb
            · exact ⟨hself _ (blk_row.2 rfl),g0 _ rfl⟩
            · exact ⟨hm b (g3 b hb).1,(g3 b hb).2⟩
  have hyt : ∀ u F,β[i]? = some (tv u F) → VSim w (okOf c w (subH i (frzY o) (frzT o) (frzZ o) 0 σ.h) β) c.lo β (frzT o) u:=by
    intro u F hu
    rw [hv] at hu
    injection hu with hu
    subst hu
    cases o with
    | dead => simp [frzT,VSim]
    | box cells => simp [frzT,VSim]
    | row own ety e xs => simp [frzT,VSim]
    | tree xs =>
      obtain ⟨u',F',he,h1,h2,h3⟩:=ho
      obtain ⟨rfl,rfl⟩:=tv_inj he
      simp only [frzT,VSim]
      exact ⟨F,h1,h2,fun b hb => ⟨hself b (by simpa [blkOf,tvF_tv] using hb),h3 b hb⟩⟩
  have hz : ∀ b off,β[i]? = some (.pointer (some ⟨b,0,none⟩)) → VSim w (okOf c w (subH i (frzY o) (frzT o) (frzZ o) 0 σ.h) β) c.lo β (frzZ o off) (.pointer (some ⟨b,off,none⟩)):=by
    intro b off hb
    rw [hv] at hb
    injection hb with hb
    subst hb
    cases o with
    | dead => simp [frzZ,VSim]
    | row own ety e xs => simp [frzZ,VSim]
    | tree xs => simp [frzZ,VSim]
    | box cells =>
      simp only [frzZ]
      cases hd : dsOf cells with
      | none => simp [VSim]
      | some ds =>
        obtain ⟨b',vs,ty,he,h1,h2⟩:=ho
        injection he with he
        injection he with he
        injection he with he
        subst he
        simp only [VSim]
        refine ⟨b,0,vs,by rw [zero_add],hself b (by simp [blkOf]),fun k u hu => ?_,(h2.ds hd).move (fun b hb => ⟨hm b hb,rfl⟩)⟩
        rw [zero_add,World.cell?,h1]
        simpa using hu
  refine ⟨S.defers,S.size,S.fr,by simp [S.len,len_subH],S.vone,fun j q u h1 h2 => ?_,fun j q u b h1 h2 h3 => ?_,fun j k q q1 u u1 b hjk h1 h2 h3 h4 h5 h6 => ?_,fun j => ?_⟩
  · obtain ⟨q',g1,⟨rfl,rfl⟩|⟨hj,rfl⟩⟩:=hget h1
    · trivial
    · have:=S.obj j q' u g1 h2
      cases q' with
      | dead => trivial
      | row own ety e xs =>
        obtain ⟨inner,k1,k2,k3,k4,k5⟩:=this
        refine ⟨inner,k1,k2,k3,k4.move (fun b hb => ⟨hm b hb,rfl⟩),fun ho => ?_⟩
        obtain ⟨g0,F,g1,g2,g3⟩:=k5 ho
        exact ⟨g0,F,g1,g2,fun b hb => ⟨hm b (g3 b hb).1,(g3 b hb).2⟩⟩
      | tree xs => exact this
      | box cells =>
        obtain ⟨b,vs,ty,rfl,k1,k2⟩:=this
        exact ⟨b,vs,ty,rfl,k1,k2.sub hm hy hyt hz⟩
  · obtain ⟨q',g1,⟨rfl,rfl⟩|⟨hj,rfl⟩⟩:=hget h1
    · simp [blkOf] at h3
    · exact S.own j q' u b g1 h2 (by rw [← hblk];exact h3)
  · obtain ⟨q',g1,⟨rfl,rfl⟩|⟨hj,rfl⟩⟩:=hget h1
    · simp [blkOf] at h5
    · obtain ⟨q2,g2,⟨rfl,rfl⟩|⟨hj',rfl⟩⟩:=hget h3
      · simp [blkOf] at h6
      · exact S.sep j k q' q2 u u1 b hjk g1 h2 g2 h4 (by rw [← hblk];exact h5) (by rw [← hblk];exact h6)
  · show VSim _ _ _ _ (lkp (subT _ _ _ _ _) j) _
    rw [lkp_subT]
    exact (S.tmp j).sub hm hy hyt hz
theorem Sim.frzs (S : Sim c σ β a w) : ∀ l : List Nat,Sim c (σ.frzs l) β a w:=by
  intro l
  induction l generalizing σ with
  | nil => exact S
  | cons i r ih => exact ih (S.frz i)
theorem frz_blk {σ : St} {k i : Nat} {q : O} (h : (σ.frz k).h[i]? = some q) : ∃ q0,σ.h[i]? = some q0 ∧ ∀ u b,b ∈ blkOf q u → b ∈ blkOf q0 u:=by
  unfold St.frz at h
  cases hk : σ.h[k]? with
  | none => rw [hk] at h;exact ⟨q,h,fun _ _ h => h⟩
  | some o =>
    rw [hk] at h
    simp only at h
    rw [get_subH,zero_add] at h
    obtain ⟨q0,h1,h2⟩:=Option.map_eq_some_iff.1 h
    refine ⟨q0,h1,fun u b hb => ?_⟩
    by_cases hj : k = i
    · subst hj;rw [Nat.beq_refl] at h2;simp only [cond_true] at h2;subst h2;simp [blkOf] at hb
    · rw [beq_no hj] at h2
      simp only [cond_false] at h2
      subst h2
      have : blkOf (q0.sub k (frzY o) (frzT o) (frzZ o)) u = blkOf q0 u:=by cases q0 <;> cases u <;> first|rfl|(rename_i a;cases a <;> rfl)
      rwa [this] at hb
theorem frzs_blk : ∀ {l : List Nat} {σ : St} {i : Nat} {q : O},(σ.frzs l).h[i]? = some q → ∃ q0,σ.h[i]? = some q0 ∧ ∀ u b,b ∈ blkOf q u → b ∈ blkOf q0 u
  | [],σ,i,q,h => ⟨q,h,fun _ _ h => h⟩
  | k :: l,σ,i,q,h => by
    obtain ⟨q1,h1,h2⟩:=frzs_blk (l:=l) (σ:=σ.frz k) h
    obtain ⟨q0,h3,h4⟩:=frz_blk h1
    exact ⟨q0,h3,fun u b hb => h4 u b (h2 u b hb)⟩
end
end Go.Proofs.YtlddcimpdkcgeaaGreatDoor.Sym
