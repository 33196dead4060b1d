/- Instructions: what they make of an abstract state. -/
import Derived.Test.YtlddcimpdkcgeaaDoorS2
set_option linter.unusedVariables false
set_option linter.unusedSimpArgs false
namespace Go.Proofs.YtlddcimpdkcgeaaDoor.Sym
open Go.RowKit

/-! ### Freezing: an object of the call's own becomes data -/
mutual
def A.sub (i : Nat) (y t : A) (z : Nat → A) : A → A
  | .osl j => bif Nat.beq i j then y else .osl j
  | .otr j => bif Nat.beq i j then t else .otr j
  | .ptr j off => bif Nat.beq i j then z off else .ptr j off
  | .optr j k e off => bif Nat.beq i j then .any else .optr j k e off
  | .fn f cap => .fn f (A.subL i y t z cap)
  | .agg xs => .agg (A.subL i y t z xs)
  | .tup xs => .tup (A.subL i y t z xs)
  | .opt g x => .opt g (A.sub i y t z x)
  | .any => .any
  | .d o x => .d o x
  | .ep ds off => .ep ds off
  | .nil => .nil
  | .pin j u => .pin j u
def A.subL (i : Nat) (y t : A) (z : Nat → A) : List A → List A
  | [] => []
  | x :: xs => A.sub i y t z x :: A.subL i y t z xs
end

def O.sub (i : Nat) (y t : A) (z : Nat → A) : O → O
  | .box cells => .box (A.subL i y t z cells)
  | .row own ety e xs => .row own ety e xs
  | .tree xs => .tree xs
  | .dead => .dead

def subT (i : Nat) (y t : A) (z : Nat → A) : List (Nat × A) → List (Nat × A)
  | [] => []
  | (k,x) :: r => (k,A.sub i y t z x) :: subT i y t z r

def subH (i : Nat) (y t : A) (z : Nat → A) : Nat → List O → List O
  | _,[] => []
  | n,o :: h => (bif Nat.beq i n then .dead else O.sub i y t z o) :: subH i y t z (n + 1) h

/-- Cells as data. -/
def dsOf : List A → Option (List D)
  | [] => some []
  | .d _ x :: r => match dsOf r with|some ds => some (x :: ds)|none => none
  | .nil :: r => match dsOf r with|some ds => some (.sl [] :: ds)|none => none
  | _ :: _ => none

def frzY : O → A
  | .row own _ _ xs => .d own (.sl xs)
  | _ => .any
def frzT : O → A
  | .tree xs => .d true (.sl xs)
  | _ => .any
def frzZ : O → Nat → A
  | .box cells,off => match dsOf cells with|some ds => .ep ds off|none => .any
  | _,_ => .any

def St.frz (σ : St) (i : Nat) : St :=
  match σ.h[i]? with
  | some o => ⟨subT i (frzY o) (frzT o) (frzZ o) σ.t,subH i (frzY o) (frzT o) (frzZ o) 0 σ.h⟩
  | none => σ

def St.frzs (σ : St) : List Nat → St
  | [] => σ
  | i :: r => (σ.frz i).frzs r

mutual
def A.ids : A → List Nat
  | .osl j => [j]
  | .otr _ => []
  | .ptr j _ => [j]
  | .optr j _ _ _ => [j]
  | .fn _ cap => A.idsL cap
  | .agg xs => A.idsL xs
  | .tup xs => A.idsL xs
  | .opt _ x => A.ids x
  | .any => []
  | .d _ _ => []
  | .ep _ _ => []
  | .nil => []
  | .pin _ _ => []
def A.idsL : List A → List Nat
  | [] => []
  | x :: xs => A.ids x ++ A.idsL xs
end

theorem lkp_subT (i : Nat) (y t : A) (z : Nat → A) (j : Nat) : ∀ l : List (Nat × A),lkp (subT i y t z l) j = A.sub i y t z (lkp l j)
  | [] => rfl
  | (k,x) :: l => by
    simp only [subT,lkp]
    cases Nat.beq k j with
    | true => rfl
    | false => exact lkp_subT i y t z j l

theorem get_subH (i : Nat) (y t : A) (z : Nat → A) : ∀ (h : List O) (n j : Nat),(subH i y t z n h)[j]? = (h[j]?).map (fun o => bif Nat.beq i (n + j) then .dead else O.sub i y t z o)
  | [],n,j => by simp [subH]
  | o :: h,n,0 => by simp [subH]
  | o :: h,n,j + 1 => by
    simp only [subH,List.getElem?_cons_succ,get_subH i y t z h (n + 1) j]
    rw [show n + 1 + j = n + (j + 1) by omega]

theorem len_subH (i : Nat) (y t : A) (z : Nat → A) : ∀ (h : List O) (n : Nat),(subH i y t z n h).length = h.length
  | [],_ => rfl
  | o :: h,n => by simp [subH,len_subH i y t z h (n + 1)]

mutual
theorem VSim.sub {w : World} {ok ok' : Nat → Prop} {lo : Nat} {β : List Value} {i : Nat} {y t : A} {z : Nat → A} (hm : ∀ b,ok b → ok' b)
    (hy : ∀ v,β[i]? = some v → VSim w ok' lo β y v) (ht : ∀ v F,β[i]? = some (tv v F) → VSim w ok' lo β t v) (hz : ∀ b off,β[i]? = some (.pointer (some ⟨b,0,none⟩)) → VSim w ok' lo β (z off) (.pointer (some ⟨b,off,none⟩))) :
    ∀ {x : A} {v : Value},VSim w ok lo β x v → VSim w ok' lo β (A.sub i y t z x) v
  | .osl j,v,h => by
    simp only [A.sub]
    by_cases hj : i = j
    · subst hj;rw [Nat.beq_refl];simp only [VSim] at h;exact hy v h
    · rw [beq_no hj];simp only [VSim,cond_false] at h ⊢;exact h
  | .otr j,v,h => by
    simp only [A.sub]
    by_cases hj : i = j
    · subst hj;rw [Nat.beq_refl];simp only [VSim] at h;exact ht v _ h.1.choose_spec
    · rw [beq_no hj];simp only [VSim,cond_false] at h ⊢;exact h
  | .ptr j off,v,h => by
    simp only [A.sub]
    by_cases hj : i = j
    · subst hj;rw [Nat.beq_refl];simp only [VSim] at h
      obtain ⟨b,h1,rfl⟩:=h
      exact hz b off h1
    · rw [beq_no hj];simp only [VSim,cond_false] at h ⊢;exact h
  | .optr j k e off,v,h => by
    simp only [A.sub]
    by_cases hj : i = j
    · subst hj;rw [Nat.beq_refl];simp [VSim]
    · rw [beq_no hj];simp only [VSim,cond_false] at h ⊢;exact h
  | .fn f cap,v,h => by
    simp only [A.sub,VSim] at h ⊢
    obtain ⟨vs,h1,h2⟩:=h
    exact ⟨vs,h1,VSimL.sub hm hy ht hz h2⟩
  | .agg xs,v,h => by
    simp only [A.sub,VSim] at h ⊢
    obtain ⟨vs,h1,h2⟩:=h
    exact ⟨vs,h1,VSimL.sub hm hy ht hz h2⟩
  | .tup xs,v,h => by
    simp only [A.sub,VSim] at h ⊢
    obtain ⟨vs,h1,h2⟩:=h
    exact ⟨vs,h1,VSimL.sub hm hy ht hz h2⟩
  | .opt g x,v,h => by
    simp only [A.sub,VSim] at h ⊢
    exact ⟨fun hg => VSim.sub hm hy ht hz (h.1 hg),h.2⟩
  | .any,v,h => by simp [A.sub,VSim]
  | .d o x,v,h => by
    simp only [A.sub]
    exact h.move (p:=fun _ => true) (fun b hb => ⟨hm b hb,rfl⟩) (Nat.le_refl _) (fun _ _ _ h => h) (A.free_true _)
  | .ep ds off,v,h => by
    simp only [A.sub]
    exact h.move (p:=fun _ => true) (fun b hb => ⟨hm b hb,rfl⟩) (Nat.le_refl _) (fun _ _ _ h => h) (A.free_true _)
  | .nil,v,h => by simp only [A.sub,VSim] at h ⊢;exact h
  | .pin j u,v,h => by simp only [A.sub,VSim] at h ⊢;exact h
theorem VSimL.sub {w : World} {ok ok' : Nat → Prop} {lo : Nat} {β : List Value} {i : Nat} {y t : A} {z : Nat → A} (hm : ∀ b,ok b → ok' b)
    (hy : ∀ v,β[i]? = some v → VSim w ok' lo β y v) (ht : ∀ v F,β[i]? = some (tv v F) → VSim w ok' lo β t v) (hz : ∀ b off,β[i]? = some (.pointer (some ⟨b,0,none⟩)) → VSim w ok' lo β (z off) (.pointer (some ⟨b,off,none⟩))) :
    ∀ {xs : List A} {vs : List Value},VSimL w ok lo β xs vs → VSimL w ok' lo β (A.subL i y t z xs) vs
  | [],[],_ => by simp [A.subL,VSimL]
  | x :: xs,v :: vs,h => by
    simp only [A.subL,VSimL] at h ⊢
    exact ⟨VSim.sub hm hy ht hz h.1,VSimL.sub hm hy ht hz h.2⟩
  | [],_ :: _,h => by simp [VSimL] at h
  | _ :: _,[],h => by simp [VSimL] at h
end

theorem VSimL.ds {w : World} {ok : Nat → Prop} {lo : Nat} {β : List Value} : ∀ {xs : List A} {vs : List Value} {ds : List D},dsOf xs = some ds → VSimL w ok lo β xs vs → RepL w ok vs ds
  | [],[],ds,h,_ => by
    simp only [dsOf,Option.some.injEq] at h
    subst h;trivial
  | .d o x :: r,v :: vs,ds,h,hs => by
    simp only [dsOf] at h
    split at h
    · rename_i ds' hd
      simp only [Option.some.injEq] at h
      subst h
      simp only [VSimL] at hs
      exact ⟨hs.1.read,VSimL.ds hd hs.2⟩
    · cases h
  | .nil :: r,v :: vs,ds,h,hs => by
    simp only [dsOf] at h
    split at h
    · rename_i ds' hd
      simp only [Option.some.injEq] at h
      subst h
      simp only [VSimL,VSim] at hs
      exact ⟨hs.1 ▸ Rep.nil _ _ _ _,VSimL.ds hd hs.2⟩
    · cases h
  | [],_ :: _,_,_,h => by simp [VSimL] at h
  | _ :: _,[],_,_,h => by simp [VSimL] at h
  | .any :: _,_ :: _,_,h,_ => by simp [dsOf] at h
  | .ptr _ _ :: _,_ :: _,_,h,_ => by simp [dsOf] at h
  | .osl _ :: _,_ :: _,_,h,_ => by simp [dsOf] at h
  | .otr _ :: _,_ :: _,_,h,_ => by simp [dsOf] at h
  | .optr _ _ _ _ :: _,_ :: _,_,h,_ => by simp [dsOf] at h
  | .ep _ _ :: _,_ :: _,_,h,_ => by simp [dsOf] at h
  | .fn _ _ :: _,_ :: _,_,h,_ => by simp [dsOf] at h
  | .agg _ :: _,_ :: _,_,h,_ => by simp [dsOf] at h
  | .tup _ :: _,_ :: _,_,h,_ => by simp [dsOf] at h
  | .opt _ _ :: _,_ :: _,_,h,_ => by simp [dsOf] at h
  | .pin _ _ :: _,_ :: _,_,h,_ => by simp [dsOf] at h

section
variable {c : Cx} {σ : St} {β : List Value} {a : Act} {w w' : World}

theorem Sim.frz (S : Sim c σ β a w) (i : Nat) : Sim c (σ.frz i) β a w:=by
  unfold St.frz
  cases hi : σ.h[i]? with
  | none => exact S
  | some o =>
  simp only
  have hil:=(List.getElem?_eq_some_iff.1 hi).1
  obtain ⟨v,hv⟩ : ∃ v,β[i]? = some v:=⟨_,List.getElem?_eq_getElem (show i < β.length by rw [S.len];exact hil)⟩
  have hget : ∀ {j : Nat} {q : O},(subH i (frzY o) (frzT o) (frzZ o) 0 σ.h)[j]? = some q → ∃ q',σ.h[j]? = some q' ∧ ((j = i ∧ q = .dead) ∨ (j ≠ i ∧ q = q'.sub i (frzY o) (frzT o) (frzZ o))):=by
    intro j q h
    rw [get_subH,Nat.zero_add] at h
    obtain ⟨q',h1,h2⟩:=Option.map_eq_some_iff.1 h
    refine ⟨q',h1,?_⟩
    by_cases hj : i = j
    · subst hj;rw [Nat.beq_refl] at h2;exact .inl ⟨rfl,h2.symm⟩
    · rw [beq_no hj] at h2;exact .inr ⟨fun e => hj e.symm,h2.symm⟩
  have hblk : ∀ (q : O) (u : Value),blkOf (q.sub i (frzY o) (frzT o) (frzZ o)) u = blkOf q u:=fun q u => by cases q <;> cases u <;> first|rfl|(rename_i a;cases a <;> rfl)
  have hm : ∀ b,okOf c w σ.h β b → okOf c w (subH i (frzY o) (frzT o) (frzZ o) 0 σ.h) β b:=by
    intro b hk
    refine ⟨hk.1,hk.2.1,fun j q u h1 h2 h3 => ?_⟩
    obtain ⟨q',g1,⟨rfl,rfl⟩|⟨hj,rfl⟩⟩:=hget h1
    · simp [blkOf] at h3
    · exact hk.2.2 j q' u g1 h2 (by rw [← hblk];exact h3)
  have hself : ∀ b,b ∈ blkOf o v → okOf c w (subH i (frzY o) (frzT o) (frzZ o) 0 σ.h) β b:=by
    intro b hb
    have h0:=S.own i o v b hi hv hb
    refine ⟨h0.2,?_,fun j q u h1 h2 h3 => ?_⟩
    · rcases h0.1 with h|h
      · exact .inr (.inr h)
      · exact .inr (.inl h)
    · obtain ⟨q',g1,⟨rfl,rfl⟩|⟨hj,rfl⟩⟩:=hget h1
      · simp [blkOf] at h3
      · rw [hblk] at h3
        exact S.sep i j o q' v u b (fun e => hj e.symm) hi hv g1 h2 hb h3
  have ho:=S.obj i o v hi hv
  have hy : ∀ u,β[i]? = some u → VSim w (okOf c w (subH i (frzY o) (frzT o) (frzZ o) 0 σ.h) β) c.lo β (frzY o) u:=by
    intro u hu
    rw [hv] at hu
    injection hu with hu
    subst hu
    cases o with
    | dead => simp [frzY,VSim]
    | box cells => simp [frzY,VSim]
    | tree xs => simp [frzY,VSim]
    | row own ety e xs =>
      obtain ⟨inner,h1,h2,h3,h4,h5⟩:=ho
      cases own with
      | false =>
        simp only [frzY,VSim]
        rcases h1.2 with ⟨rfl,h⟩|⟨g,cap,cur,rfl,hg,hh,hn,hc,hs,ht⟩
        · have:=List.eq_nil_of_length_eq_zero h
          subst this
          exact Rep.nil _ _ _ _
        · refine Rep.of_cells (us:=inner) hn h3 h2 (hself g (blk_row.2 rfl)) (fun k u hu => ?_) (h4.move (fun b hb => ⟨hm b hb,rfl⟩))
          rw [← ht,List.getElem?_take] at hu
          split at hu
          · rw [Nat.zero_add,World.cell?,hh]
            simpa using hu
          · cases hu
      | true =>
        obtain ⟨g0,F,g1,g2,g3⟩:=h5 rfl
        simp only [frzY,VSim]
        rcases h1.2 with ⟨rfl,h⟩|⟨g,cap,cur,rfl,hg,hh,hn,hc,hs,ht⟩
        · have:=List.eq_nil_of_length_eq_zero h
          subst this
          exact ⟨[],.none _ _ [] [] [] .nil,List.nodup_nil,fun b hb => by cases hb⟩
        · rcases Nat.eq_zero_or_pos xs.length with hz|hz
          · have:=List.eq_nil_of_length_eq_zero hz
            subst this
            exact ⟨[],.none _ _ [] [] [] .nil,List.nodup_nil,fun b hb => by cases hb⟩
          refine ⟨g :: (F ++ []),.sl g cap cur ety e xs [] [] F [] hz hh h2 hn hc hs h3 (by rw [ht];exact g1) .nil,?_,fun b hb => ?_⟩
          · rw [List.append_nil,List.nodup_cons]
            exact ⟨fun hgF => (g3 g hgF).1.2.2 i _ _ hi hv (blk_row.2 rfl),g2⟩
          · rw [List.append_nil] at hb
            rcases List.mem_cons.1 hb with rfl|hb
            · exact ⟨hself _ (blk_row.2 rfl),g0 _ rfl⟩
            · exact ⟨hm b (g3 b hb).1,(g3 b hb).2⟩
  have hyt : ∀ u F,β[i]? = some (tv u F) → VSim w (okOf c w (subH i (frzY o) (frzT o) (frzZ o) 0 σ.h) β) c.lo β (frzT o) u:=by
    intro u F hu
    rw [hv] at hu
    injection hu with hu
    subst hu
    cases o with
    | dead => simp [frzT,VSim]
    | box cells => simp [frzT,VSim]
    | row own ety e xs => simp [frzT,VSim]
    | tree xs =>
      obtain ⟨u',F',he,h1,h2,h3⟩:=ho
      obtain ⟨rfl,rfl⟩:=tv_inj he
      simp only [frzT,VSim]
      exact ⟨F,h1,h2,fun b hb => ⟨hself b (by simpa [blkOf,tvF_tv] using hb),h3 b hb⟩⟩
  have hz : ∀ b off,β[i]? = some (.pointer (some ⟨b,0,none⟩)) → VSim w (okOf c w (subH i (frzY o) (frzT o) (frzZ o) 0 σ.h) β) c.lo β (frzZ o off) (.pointer (some ⟨b,off,none⟩)):=by
    intro b off hb
    rw [hv] at hb
    injection hb with hb
    subst hb
    cases o with
    | dead => simp [frzZ,VSim]
    | row own ety e xs => simp [frzZ,VSim]
    | tree xs => simp [frzZ,VSim]
    | box cells =>
      simp only [frzZ]
      cases hd : dsOf cells with
      | none => simp [VSim]
      | some ds =>
        obtain ⟨b',vs,ty,he,h1,h2⟩:=ho
        injection he with he
        injection he with he
        injection he with he
        subst he
        simp only [VSim]
        refine ⟨b,0,vs,by rw [Nat.zero_add],hself b (by simp [blkOf]),fun k u hu => ?_,(h2.ds hd).move (fun b hb => ⟨hm b hb,rfl⟩)⟩
        rw [Nat.zero_add,World.cell?,h1]
        simpa using hu
  refine ⟨S.defers,S.size,S.fr,by simp [S.len,len_subH],S.vone,fun j q u h1 h2 => ?_,fun j q u b h1 h2 h3 => ?_,fun j k q q1 u u1 b hjk h1 h2 h3 h4 h5 h6 => ?_,fun j => ?_⟩
  · obtain ⟨q',g1,⟨rfl,rfl⟩|⟨hj,rfl⟩⟩:=hget h1
    · trivial
    · have:=S.obj j q' u g1 h2
      cases q' with
      | dead => trivial
      | row own ety e xs =>
        obtain ⟨inner,k1,k2,k3,k4,k5⟩:=this
        refine ⟨inner,k1,k2,k3,k4.move (fun b hb => ⟨hm b hb,rfl⟩),fun ho => ?_⟩
        obtain ⟨g0,F,g1,g2,g3⟩:=k5 ho
        exact ⟨g0,F,g1,g2,fun b hb => ⟨hm b (g3 b hb).1,(g3 b hb).2⟩⟩
      | tree xs => exact this
      | box cells =>
        obtain ⟨b,vs,ty,rfl,k1,k2⟩:=this
        exact ⟨b,vs,ty,rfl,k1,k2.sub hm hy hyt hz⟩
  · obtain ⟨q',g1,⟨rfl,rfl⟩|⟨hj,rfl⟩⟩:=hget h1
    · simp [blkOf] at h3
    · exact S.own j q' u b g1 h2 (by rw [← hblk];exact h3)
  · obtain ⟨q',g1,⟨rfl,rfl⟩|⟨hj,rfl⟩⟩:=hget h1
    · simp [blkOf] at h5
    · obtain ⟨q2,g2,⟨rfl,rfl⟩|⟨hj',rfl⟩⟩:=hget h3
      · simp [blkOf] at h6
      · exact S.sep j k q' q2 u u1 b hjk g1 h2 g2 h4 (by rw [← hblk];exact h5) (by rw [← hblk];exact h6)
  · show VSim _ _ _ _ (lkp (subT _ _ _ _ _) j) _
    rw [lkp_subT]
    exact (S.tmp j).sub hm hy hyt hz

theorem Sim.frzs (S : Sim c σ β a w) : ∀ l : List Nat,Sim c (σ.frzs l) β a w:=by
  intro l
  induction l generalizing σ with
  | nil => exact S
  | cons i r ih => exact ih (S.frz i)

theorem frz_blk {σ : St} {k i : Nat} {q : O} (h : (σ.frz k).h[i]? = some q) : ∃ q0,σ.h[i]? = some q0 ∧ ∀ u b,b ∈ blkOf q u → b ∈ blkOf q0 u:=by
  unfold St.frz at h
  cases hk : σ.h[k]? with
  | none => rw [hk] at h;exact ⟨q,h,fun _ _ h => h⟩
  | some o =>
    rw [hk] at h
    simp only at h
    rw [get_subH,Nat.zero_add] at h
    obtain ⟨q0,h1,h2⟩:=Option.map_eq_some_iff.1 h
    refine ⟨q0,h1,fun u b hb => ?_⟩
    by_cases hj : k = i
    · subst hj;rw [Nat.beq_refl] at h2;simp only [cond_true] at h2;subst h2;simp [blkOf] at hb
    · rw [beq_no hj] at h2
      simp only [cond_false] at h2
      subst h2
      have : blkOf (q0.sub k (frzY o) (frzT o) (frzZ o)) u = blkOf q0 u:=by cases q0 <;> cases u <;> first|rfl|(rename_i a;cases a <;> rfl)
      rwa [this] at hb
theorem frzs_blk : ∀ {l : List Nat} {σ : St} {i : Nat} {q : O},(σ.frzs l).h[i]? = some q → ∃ q0,σ.h[i]? = some q0 ∧ ∀ u b,b ∈ blkOf q u → b ∈ blkOf q0 u
  | [],σ,i,q,h => ⟨q,h,fun _ _ h => h⟩
  | k :: l,σ,i,q,h => by
    obtain ⟨q1,h1,h2⟩:=frzs_blk (l:=l) (σ:=σ.frz k) h
    obtain ⟨q0,h3,h4⟩:=frz_blk h1
    exact ⟨q0,h3,fun u b hb => h4 u b (h2 u b hb)⟩

end
end Go.Proofs.YtlddcimpdkcgeaaDoor.Sym
