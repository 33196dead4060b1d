/- Instructions: slices of what is there; every instruction. -/
import Derived.Test.YtlddcimpdkcgeaaGreatDoorS7
set_option linter.unusedVariables false
set_option linter.unusedSimpArgs false
/- Instructions: what is made; all of them together. -/
namespace Go.Proofs.YtlddcimpdkcgeaaGreatDoor.Sym
open List (append_nil)
open Go.RowKit
section
variable {P : Program} {c : Cx} {σ : St} {β : List Value} {a : Act} {w w' : World} {o : Oper}
def listSet : List Value → Nat → List Value → List Value
  | cells,_,[] => cells
  | cells,off,x :: xs => listSet (cells.set off x) (off + 1) xs
theorem fold_set (off : Nat) : ∀ (l : List Value) (k : Nat) (cells : Array Value),
    (l.zipIdx k).foldl (fun (cs : Array Value) (p : Value × Nat) => cs.setIfInBounds (off + p.2) p.1) cells = (listSet cells.toList (off + k) l).toArray
  | [],k,cells => by simp [listSet]
  | v :: l,k,cells => by
    simp only [List.zipIdx_cons,List.foldl_cons,listSet]
    rw [fold_set off l (k + 1) (cells.setIfInBounds (off + k) v)]
    simp [Nat.add_assoc]
theorem listSet_mid : ∀ (l done rest : List Value),l.length ≤ rest.length → listSet (done ++ rest) done.length l = done ++ l ++ rest.drop l.length
  | [],done,rest,_ => by simp [listSet]
  | v :: l,done,[],h => by simp at h
  | v :: l,done,r :: rest,h => by
    simp only [listSet,List.length_cons,List.drop_succ_cons]
    have h1 : (done ++ r :: rest).set done.length v = (done ++ [v]) ++ rest:=by simp
    have h2 : done.length + 1 = (done ++ [v]).length:=by simp
    rw [h1,h2,listSet_mid l (done ++ [v]) rest (by simpa using h)]
    simp
theorem fill_step (place : Nat → Option (Nat × Nat)) (cells : Array Value) (i : Nat) (v : Value) (rest : List (Nat × Value)) (off size : Nat) (hp : place i = some (off,size)) (h1 : v.cells.size = size) (h2 : off + size ≤ cells.size) :
    Instr.fill place cells ((i,v) :: rest) = Instr.fill place (listSet cells.toList off v.cells.toList).toArray rest:=by
  have h3 : (v.cells.size != size || decide (off + v.cells.size > cells.size)) = false:=by simp [h1];omega
  have h4:=fold_set off v.cells.toList 0 cells
  simp only [Nat.add_zero] at h4
  rw [Instr.fill]
  simp only [hp]
  rw [if_neg (by simpa using h3)]
  congr 1
  rw [← h4,← Array.foldl_toList]
  simp
theorem ok_mks (S : Sim c σ β a w) {t e : TypeId} {x y : Operand} {i : TypeInfo} {z : Value} (ho : o.op = .makeSlice t x y) (ht : P.underlying t = some (.slice e)) (hi : P.info? e = some i) (hz : i.zero = some z) (hzs : z.cells.size = i.size) (hsz : 0 < i.size) :
    ResOk P c o σ β a w ((I.mks e i.size i.bytes (z.cells.toList.map A.ofVal1) (toX x) (toX y)).res σ):=by
  have hx:=S.ev x
  have hy:=S.ev y
  simp only [I.res]
  split
  · rename_i o1 k1 n o2 k2 m ds hx' hy' hd
    rintro ⟨h0,h1,h2,h3,h4⟩
    rw [hx'] at hx
    rw [hy'] at hy
    have hrun:=run_make (P:=P) w t e i z ht hi hz k1 k2 n m h0 h1 (by omega) (by omega)
    have hfr : Fr (fun _ => False) w (w.alloc (.cells (madeCells z.cells (m.toNat * i.size)) e)):=Fr.alloc w _
    refine .inl ⟨.slice (some ⟨w.heap.size,0,none⟩) n.toNat m.toNat,_,by simp only [execOp,ho,(vint hx).1,(vint hy).1,Sem.run_bind,hrun,Result.andThen_ok,Sem.run_pure],β ++ [.slice (some ⟨w.heap.size,0,none⟩) n.toNat m.toNat],S.new hfr rfl (fun b hb => ?_) (fun hok => ?_),?_,by
      simp only [Nw,ho]
      exact NwG.new S.len hfr (fun b hb => by
        have hb:=blk_row.1 hb
        simp only [Value.ownBlock,Option.some.injEq] at hb
        omega)⟩
    · have hb:=blk_row.1 hb
      simp only [Value.ownBlock,Option.some.injEq] at hb
      subst hb;simp
    · refine ⟨(madeCells z.cells (m.toNat * i.size)).toList.take (n.toNat * i.size),⟨?_,.inr ⟨w.heap.size,m.toNat,_,by simp,Nat.zero_le _,heap_alloc_new w _,by simp;omega,by simp only [maxLen];omega,size_madeCells _ _,by simp⟩⟩,?_,by simp;omega,?_,fun ho => ⟨fun b hb => ?_,[],?_,List.nodup_nil,fun b hb => by cases hb⟩⟩
      · have : n.toNat * i.size ≤ m.toNat * i.size:=Nat.mul_le_mul_right _ (by omega)
        rw [List.length_take,Array.length_toList,size_madeCells,Nat.min_eq_left this,List.length_replicate]
      · intro l hl
        rw [List.eq_of_mem_replicate hl]
        exact h4
      · have hall : ∀ l,l ∈ List.replicate n.toNat ds → l.length = i.size:=fun l hl => by rw [List.eq_of_mem_replicate hl];exact h4
        have hrep : RepL (w.alloc (.cells (madeCells z.cells (m.toNat * i.size)) e)) (okOf c (w.alloc (.cells (madeCells z.cells (m.toNat * i.size)) e)) (σ.h ++ [.row ((z.cells.toList.map A.ofVal1).all A.sc) e i.size (List.replicate n.toNat ds)]) (β ++ [.slice (some ⟨w.heap.size,0,none⟩) n.toNat m.toNat])) z.cells.toList ds:=VSimL.ds (lo:=0) (β:=[]) hd (ofValL_sim _)
        have hle : n.toNat * i.size ≤ m.toNat * i.size:=Nat.mul_le_mul_right _ (by omega)
        refine RepL.of_get ?_ (fun k u d hu hd' => ?_)
        · rw [flat_len hall,List.length_take,Array.length_toList,size_madeCells,Nat.min_eq_left hle,List.length_replicate]
        · rw [List.getElem?_take] at hu
          split at hu
          · rename_i hk
            have hj : k / i.size < n.toNat:=Nat.div_lt_of_lt_mul (by rw [Nat.mul_comm];exact hk)
            have hf:=flat_get hall (k / i.size) (k % i.size) ds (by simp [hj]) (Nat.mod_lt _ hsz)
            rw [Nat.mul_comm,Nat.div_add_mod,hd'] at hf
            have hu' : z.cells.toList[k % i.size]? = some u:=by
              have hlt : k % z.cells.size < z.cells.size:=by rw [hzs];exact Nat.mod_lt _ hsz
              simp only [madeCells,Array.toList_map,List.getElem?_map,Array.toList_range] at hu
              rw [List.getElem?_range (by omega)] at hu
              simp only [Option.map_some,Option.some.injEq] at hu
              rw [getElem!_pos z.cells _ hlt] at hu
              rw [← hzs,Array.getElem?_toList,Array.getElem?_eq_getElem hlt,hu]
            obtain ⟨u',h1',h2'⟩:=hrep.get hf.symm
            rw [hu'] at h1'
            injection h1' with h1'
            subst h1'
            exact h2'
          · cases hu
      · simp only [Value.ownBlock,Option.some.injEq] at hb
        subst hb
        exact Nat.le_trans c.hlo S.fr.size
      · have hz0 : OwnL (w.alloc (.cells (madeCells z.cells (m.toNat * i.size)) e)) z.cells.toList ds []:=sc_ds (ok:=fun _ => True) (lo:=0) (β:=[]) hd ho (ofValL_sim _)
        have hmade : (madeCells z.cells (m.toNat * i.size)).toList.take (n.toNat * i.size) = (List.replicate n.toNat z.cells.toList).flatten:=by
          have hall : ∀ l,l ∈ List.replicate n.toNat z.cells.toList → l.length = i.size:=fun l hl => by rw [List.eq_of_mem_replicate hl,Array.length_toList,hzs]
          have hle : n.toNat * i.size ≤ m.toNat * i.size:=Nat.mul_le_mul_right _ (by omega)
          apply List.ext_getElem?
          intro k
          by_cases hk : k < n.toNat * i.size
          · have hj : k / i.size < n.toNat:=Nat.div_lt_of_lt_mul (by rw [Nat.mul_comm];exact hk)
            have hf:=flat_get hall (k / i.size) (k % i.size) z.cells.toList (by simp [hj]) (Nat.mod_lt _ hsz)
            rw [Nat.mul_comm,Nat.div_add_mod] at hf
            have hlt : k % z.cells.size < z.cells.size:=by rw [hzs];exact Nat.mod_lt _ hsz
            rw [hf,List.getElem?_take,if_pos hk]
            simp only [madeCells,Array.toList_map,List.getElem?_map,Array.toList_range]
            rw [List.getElem?_range (by omega)]
            simp only [Option.map_some]
            rw [getElem!_pos z.cells _ hlt,← hzs,Array.getElem?_toList,Array.getElem?_eq_getElem hlt]
          · rw [List.getElem?_eq_none (by rw [List.length_take];omega),List.getElem?_eq_none (by rw [flat_len hall,List.length_replicate];omega)]
        rw [hmade]
        clear hmade h0 h1 h2 h3 hrun hfr
        generalize n.toNat = nn
        induction nn with
        | zero => exact .nil
        | succ nn ih => rw [List.replicate_succ,List.replicate_succ,List.flatten_cons,List.flatten_cons];simpa using hz0.app ih
    · simp only [VSim]
      rw [← S.len];simp
  · trivial
def partsV (R : A → Value → List D → Prop) : List A → List Value → List (List D) → Prop
  | [],[],[] => True
  | x :: xs,v :: vs,ds :: l => R x v ds ∧ partsV R xs vs l
  | _,_,_ => False
theorem fill_all {e : Nat} {R : A → Value → List D → Prop} (hR : ∀ x v ds,R x v ds → v.cells.size = ds.length) : ∀ (parts : List (Nat × Operand)) (k : Nat) (l : List X) (xs : List (List D)) (done rest : List Value),inOrder k parts = some l →
    partsV R (evs σ l) (parts.map (fun p => a.eval p.2)) xs → (∀ y,y ∈ xs → y.length = e) → done.length = k * e → rest.length = parts.length * e →
    Instr.fill (fun i => some (i * e,e)) (done ++ rest).toArray (parts.map (fun p => (p.1,a.eval p.2))) = some (done ++ (parts.map (fun p => (a.eval p.2).cells.toList)).flatten).toArray ∧ xs.length = parts.length
  | [],k,l,xs,done,rest,ho,hp,hx,hd,hr => by
    simp only [inOrder,Option.some.injEq] at ho
    subst ho
    cases xs with
    | cons _ _ => simp [evs,partsV] at hp
    | nil =>
    have : rest = []:=List.eq_nil_of_length_eq_zero (by simpa using hr)
    subst this
    exact ⟨by simp [Instr.fill],rfl⟩
  | (i,x) :: parts,k,l,xs,done,rest,ho,hp,hx,hd,hr => by
    simp only [inOrder] at ho
    cases hik : Nat.beq i k with
    | false => rw [hik] at ho;cases ho
    | true =>
    have hik:=Nat.eq_of_beq_eq_true hik
    subst hik
    rw [Nat.beq_refl] at ho
    simp only [cond_true] at ho
    cases hl : inOrder (i + 1) parts with
    | none => rw [hl] at ho;cases ho
    | some l' =>
    rw [hl] at ho
    simp only [Option.some.injEq] at ho
    subst ho
    cases xs with
    | nil => simp [evs,partsV] at hp
    | cons ds xs' =>
    simp only [evs,List.map_cons,partsV] at hp
    have hds : ds.length = e:=hx ds (List.mem_cons_self ..)
    have hcl : (a.eval x).cells.size = e:=by rw [hR _ _ _ hp.1,hds]
    have hrl : rest.length = e + parts.length * e:=by rw [hr,List.length_cons,Nat.succ_mul];omega
    have hmid:=listSet_mid (a.eval x).cells.toList done rest (by rw [Array.length_toList];omega)
    obtain ⟨g2,g3⟩:=fill_all hR parts (i + 1) l' xs' (done ++ (a.eval x).cells.toList) (rest.drop e) hl hp.2 (fun y hy => hx y (List.mem_cons_of_mem _ hy))
      (by rw [List.length_append,hd,Array.length_toList,hcl,Nat.succ_mul]) (by rw [List.length_drop];omega)
    refine ⟨?_,by simp [g3]⟩
    rw [List.map_cons,fill_step (off:=i * e) (size:=e) (hp:=rfl) (h1:=hcl) (h2:=by simp;omega)]
    rw [hd] at hmid
    rw [Array.length_toList,hcl] at hmid
    rw [hmid,g2,List.append_assoc,List.map_cons,List.flatten_cons]
theorem run_buildSlice {t e : TypeId} {n : Nat} {i : TypeInfo} {z : Value} (ht : P.underlying t = some (.slice e)) (hi : P.info? e = some i) (hz : i.zero = some z) (hb : n * i.size ≤ 16777216) (vs : Array (Nat × Value)) (us : List Value)
    (hf : ∀ zs : List Value,zs.length = n * i.size → Instr.fill (fun k => some (k * i.size,i.size)) zs.toArray vs.toList = some us.toArray) :
    (Instr.buildSlice t n vs).run P w = .ok (.slice (some ⟨w.heap.size,0,none⟩) n n) (w.alloc (.cells us.toArray e)):=by
  have key : ∀ zs : Array Value,zs.size = n * i.size → Instr.fill (fun k => some (k * i.size,i.size)) zs vs.toList = some us.toArray:=fun zs h => by
    have:=hf zs.toList (by simpa using h)
    rwa [Array.toArray_toList] at this
  have h1:=fun f : Nat → Value => key ((Array.range (n * i.size)).map f) (by simp)
  have hn : ¬ (16777216 < n * i.size):=by omega
  by_cases h0 : n * i.size = 0
  · have h2:=h1 (fun _ => default)
    simp only [h0,Array.range_zero',Array.map_empty] at h2
    simp [Instr.buildSlice,run_underlying ht,sizeOf,typeInfo,hi,h0,newRow,Array.range_zero',h2]
  · simp [Instr.buildSlice,run_underlying ht,sizeOf,typeInfo,hi,h0,hn,zeroValue,hz,newRow,h1]
theorem partsV_rep {ok : Nat → Prop} {lo : Nat} : ∀ {xs : List A} {vs : List Value} {l : List (List D)},partsD xs = some l → VSimL w ok lo β xs vs →
    partsV (fun x v ds => RepL w ok v.cells.toList ds ∧ (partSc x = true → OwnL w v.cells.toList ds [])) xs vs l
  | [],[],l,h,_ => by simp only [partsD,Option.some.injEq] at h;subst h;trivial
  | x :: xs,v :: vs,l,h,hs => by
    simp only [VSimL] at hs
    simp only [partsD] at h
    split at h
    · rename_i ds l' h1 h2
      simp only [Option.some.injEq] at h
      subst h
      exact ⟨⟨partD_rep h1 hs.1,fun hp => partSc_own h1 hp hs.1⟩,partsV_rep h2 hs.2⟩
    · cases h
  | [],_ :: _,_,_,h => by simp [VSimL] at h
  | _ :: _,[],_,_,h => by simp [VSimL] at h
theorem partsV_repL {ok : Nat → Prop} : ∀ {xs : List A} {vs : List Value} {l : List (List D)},partsV (fun x v ds => RepL w ok v.cells.toList ds ∧ (partSc x = true → OwnL w v.cells.toList ds [])) xs vs l →
    RepL w ok (vs.map (fun v => v.cells.toList)).flatten l.flatten ∧ (xs.all partSc = true → OwnL w (vs.map (fun v => v.cells.toList)).flatten l.flatten [])
  | [],[],[],_ => ⟨trivial,fun _ => .nil⟩
  | x :: xs,v :: vs,ds :: l,h => by
    obtain ⟨g1,g2⟩:=partsV_repL h.2
    rw [List.map_cons,List.flatten_cons,List.flatten_cons]
    refine ⟨h.1.1.app g1,fun ha => ?_⟩
    simp only [List.all_cons,Bool.and_eq_true] at ha
    simpa using (h.1.2 ha.1).app (g2 ha.2)
  | [],[],_ :: _,h|[],_ :: _,_,h|_ :: _,[],_,h|_ :: _,_ :: _,[],h => by simp [partsV] at h
theorem partsV_one (S : Sim c σ β a w) {ok : Nat → Prop} {lo : Nat} : ∀ {xs : List A} {vs : List Value} {l : List (List D)} {k : Option Nat},partsC σ xs = some (l,k) → VSimL w ok lo β xs vs →
    partsV (fun x v ds => v.cells.toList.length = ds.length) xs vs l ∧ ∃ F,OwnL w (vs.map (fun v => v.cells.toList)).flatten l.flatten F ∧ (k = none → F = []) ∧ ∀ j,k = some j → ∃ ys u,σ.h[j]? = some (.tree ys) ∧ β[j]? = some (tv u F)
  | [],[],l,k,h,_ => by
    simp only [partsC,Option.some.injEq,Prod.mk.injEq] at h
    obtain ⟨rfl,rfl⟩:=h
    exact ⟨trivial,[],.nil,fun _ => rfl,fun j hj => by cases hj⟩
  | x :: xs,v :: vs,l,k,h,hs => by
    simp only [VSimL] at hs
    simp only [partsC] at h
    split at h
    · rename_i ds l' k' h1 h2
      simp only [Option.some.injEq,Prod.mk.injEq] at h
      obtain ⟨rfl,rfl⟩:=h
      obtain ⟨F1,f1,f2,_⟩:=partC_own S h1 hs.1
      obtain ⟨g0,F,g1,g2,g3⟩:=partsV_one S h2 hs.2
      rw [f2 rfl] at f1
      refine ⟨⟨f1.length,g0⟩,F,?_,g2,g3⟩
      rw [List.map_cons,List.flatten_cons,List.flatten_cons]
      exact f1.app g1
    · rename_i ds j l' h1 h2
      simp only [Option.some.injEq,Prod.mk.injEq] at h
      obtain ⟨rfl,rfl⟩:=h
      obtain ⟨F1,f1,_,f3⟩:=partC_own S h1 hs.1
      obtain ⟨g0,F,g1,g2,g3⟩:=partsV_one S h2 hs.2
      rw [g2 rfl] at g1
      refine ⟨⟨f1.length,g0⟩,F1,?_,fun h => (by cases h),fun j' hj => by cases hj;exact f3 j rfl⟩
      rw [List.map_cons,List.flatten_cons,List.flatten_cons]
      simpa using f1.app g1
    · cases h
  | [],_ :: _,_,_,_,h => by simp [VSimL] at h
  | _ :: _,[],_,_,_,h => by simp [VSimL] at h
theorem ok_bs (S : Sim c σ β a w) {t e : TypeId} {n : Nat} {parts : Array (Nat × Operand)} {l : List X} {i : TypeInfo} {z : Value} (ho : o.op = .buildSlice t n parts) (ht : P.underlying t = some (.slice e)) (hi : P.info? e = some i) (hz : i.zero = some z)
    (hzs : z.cells.size = i.size) (hsz : 0 < i.size) (hn : n = parts.size) (hb : n * i.size ≤ 16777216) (hl : inOrder 0 parts.toList = some l) :
    ResOk P c o σ β a w ((I.bs e i.size l).res σ):=by
  have S1:=S.frzs (A.idsL (evs σ l))
  have hev : ∀ (ps : List (Nat × Operand)) (k : Nat) (l' : List X),inOrder k ps = some l' → VSimL w (okOf c w (σ.frzs (A.idsL (evs σ l))).h β) c.lo β (evs (σ.frzs (A.idsL (evs σ l))) l') (ps.map (fun p => a.eval p.2)):=by
    intro ps
    induction ps with
    | nil => intro k l' h;simp only [inOrder,Option.some.injEq] at h;subst h;simp [evs,VSimL]
    | cons p ps ih =>
      intro k l' h
      obtain ⟨j,x⟩:=p
      simp only [inOrder] at h
      cases hik : Nat.beq j k with
      | false => rw [hik] at h;cases h
      | true =>
        rw [hik] at h
        simp only [cond_true] at h
        cases hl' : inOrder (k + 1) ps with
        | none => rw [hl'] at h;cases h
        | some l2 =>
          rw [hl'] at h
          simp only [Option.some.injEq] at h
          subst h
          simp only [evs,List.map_cons,VSimL]
          exact ⟨S1.ev x,ih (k + 1) l2 hl'⟩
  have hvl:=hev _ _ _ hl
  have hrunOf : ∀ (R : A → Value → List D → Prop) (hR : ∀ x v ds,R x v ds → v.cells.size = ds.length) (xs : List (List D)),partsV R (evs (σ.frzs (A.idsL (evs σ l))) l) (parts.toList.map (fun p => a.eval p.2)) xs → (∀ y,y ∈ xs → y.length = i.size) →
      (execOp a.eval o).run P w = .ok (.value (.slice (some ⟨w.heap.size,0,none⟩) n n)) (w.alloc (.cells ((parts.toList.map (fun p => (a.eval p.2).cells.toList)).flatten).toArray e)) ∧ xs.length = n:=by
    intro R hR xs hp hu
    have hfill:=fun (zs : List Value) (hzl : zs.length = n * i.size) => fill_all hR (e:=i.size) parts.toList 0 l xs [] zs hl hp hu (by simp) (by rw [hzl,hn];simp)
    refine ⟨?_,by rw [(hfill (List.replicate (n * i.size) undef) (by simp)).2,hn];simp⟩
    have:=run_buildSlice (P:=P) (w:=w) ht hi hz hb (parts.map (fun p => (p.1,a.eval p.2))) _ (fun zs hzl => by rw [Array.toList_map];simpa using (hfill zs hzl).1)
    simp only [execOp,ho,Sem.run_bind,this,Result.andThen_ok,Sem.run_pure]
  have hfr : ∀ us : List Value,Fr (fun _ => False) w (w.alloc (.cells us.toArray e)):=fun us => Fr.alloc w _
  have hmm : (parts.toList.map (fun p => (a.eval p.2).cells.toList)) = (parts.toList.map (fun p => a.eval p.2)).map (fun v => v.cells.toList):=by rw [List.map_map];rfl
  simp only [I.res]
  split
  · rename_i xs k hpc
    intro hu
    have hx0 : 0 < xs.length:=by
      revert hpc
      generalize evs (σ.frzs (A.idsL (evs σ l))) l = L
      cases L with
      | nil => intro h;simp [partsC] at h
      | cons y ys =>
        intro h
        simp only [partsC] at h
        split at h
        · simp only [Option.some.injEq,Prod.mk.injEq] at h;rw [← h.1];simp
        · simp only [Option.some.injEq,Prod.mk.injEq] at h;rw [← h.1];simp
        · cases h
    obtain ⟨hp,F,f1,_,f3⟩:=partsV_one S1 hpc hvl
    obtain ⟨hrun,hlen⟩:=hrunOf _ (fun x v ds h => by simpa using h) xs hp hu
    rw [hmm] at hrun
    obtain ⟨ys,u,t1,t2⟩:=f3 k rfl
    obtain ⟨u',F',he',t3,t4,t5⟩:=tree_of S1 t1 t2
    obtain ⟨rfl,rfl⟩:=tv_inj he'
    have hblk : ∀ b,b ∈ F ↔ b ∈ blkOf (.tree ys) (tv u F):=fun b => by simp [blkOf,tvF_tv]
    have hlt : ∀ b,b ∈ F → b < w.heap.size:=fun b hb => (S1.own k _ _ b t1 t2 ((hblk b).1 hb)).2
    generalize hus : ((parts.toList.map (fun p => a.eval p.2)).map (fun v => v.cells.toList)).flatten = us at hrun f1
    have husl:=f1.length
    rw [flat_len hu] at husl
    have hnz : n ≤ n * i.size:=Nat.le_mul_of_pos_right n hsz
    refine .inl ⟨_,_,hrun,β.set k (tv (.slice (some ⟨w.heap.size,0,none⟩) n n) (w.heap.size :: (F ++ []))),S1.turn t1 t2 rfl ((hfr us).trans (Fr.refl _ _) (fun _ _ h => h) |> fun h => ⟨h.os,h.tape,h.output,h.size,fun b hb _ => h.block b hb (fun h => h)⟩) (fun b hb => ?_) (fun hok => ?_),?_,by
      simp only [Nw,ho]
      exact NwG.one ⟨(hfr us).os,(hfr us).tape,(hfr us).output,(hfr us).size,fun b hb _ => (hfr us).block b hb (fun h => h)⟩ (fun q' b hq hb => by
        rw [get_killH,t1,Nat.zero_add,Nat.beq_refl] at hq
        simp only [Option.map_some,cond_true,Option.some.injEq] at hq
        subst hq
        simp only [blkOf,tvF_tv,append_nil,List.mem_cons] at hb
        rcases hb with rfl|hb
        · exact .inl (Nat.le_refl _)
        · obtain ⟨q0,g1,g2⟩:=frzs_blk t1
          exact .inr ⟨q0,_,g1,t2,g2 _ _ ((hblk b).1 hb)⟩) (fun i q' hi hq => by
        obtain ⟨q1,g1,g2⟩:=kill_blk hi hq
        obtain ⟨q0,g3,g4⟩:=frzs_blk g1
        exact ⟨q0,g3,fun u b hb => g4 u b (g2 u b hb)⟩)⟩
    · simp only [blkOf,tvF_tv,append_nil,List.mem_cons] at hb
      rcases hb with rfl|hb
      · exact .inr ⟨Nat.le_refl _,by simp⟩
      · exact .inl ((hblk b).1 hb)
    · refine ⟨_,_,rfl,?_,?_,fun b hb => ?_⟩
      · rw [← hlen]
        refine .sl w.heap.size xs.length us.toArray e i.size xs [] [] F [] hx0 (heap_alloc_new w _) hu (Nat.le_refl _) (by simp only [maxLen];omega) (by simpa using husl) (by omega) ?_ .nil
        simp only
        rw [List.take_of_length_le (by omega)]
        exact f1.move (fun b hb => Below.heap_alloc w _ b (hlt b hb))
      · rw [append_nil,List.nodup_cons]
        exact ⟨fun hb => by have:=hlt _ hb;omega,t4⟩
      · rw [append_nil,List.mem_cons] at hb
        rcases hb with rfl|hb
        · exact Nat.le_trans c.hlo S.fr.size
        · exact t5 b hb
    · simp only [VSim]
      exact ⟨⟨_,by rw [List.getElem?_set_self (List.getElem?_eq_some_iff.1 t2).1]⟩,rfl⟩
  · split
    · rename_i xs hxs
      intro hu
      have hp:=partsV_rep hxs hvl
      obtain ⟨hrun,g3⟩:=hrunOf _ (fun x v ds h => by rw [← Array.length_toList,RepL.length h.1]) xs hp hu
      obtain ⟨g1,g4⟩:=partsV_repL hp
      rw [hmm] at hrun
      generalize hus : ((parts.toList.map (fun p => a.eval p.2)).map (fun v => v.cells.toList)).flatten = us at hrun g1 g4
      have hnz : n ≤ n * i.size:=Nat.le_mul_of_pos_right n hsz
      refine .inl ⟨_,_,hrun,β ++ [.slice (some ⟨w.heap.size,0,none⟩) n n],S1.new (hfr us) rfl (fun b hb => ?_) (fun hok => ⟨us,⟨?_,.inr ⟨w.heap.size,n,us.toArray,by rw [g3],Nat.zero_le _,heap_alloc_new w _,by omega,?_,?_,?_⟩⟩,hu,?_,g1.move (fun b hb => ⟨hok b hb,(hfr us).block b hb.1 (fun h => h)⟩),fun ho' => ⟨fun b hb => ?_,[],(g4 ho').move (fun b hb => by cases hb),List.nodup_nil,fun b hb => by cases hb⟩⟩),?_,by
        simp only [Nw,ho]
        have:=NwG.new (T:=fun j => tchO σ o j = true) (h:=(σ.frzs (A.idsL (evs σ l))).h) (β:=β) S1.len (hfr us) (q:=.row ((evs (σ.frzs (A.idsL (evs σ l))) l).all partSc) e i.size xs) (v:=.slice (some ⟨w.heap.size,0,none⟩) n n) (fun b hb => by
          have hb:=blk_row.1 hb
          simp only [Value.ownBlock,Option.some.injEq] at hb
          omega)
        refine ⟨⟨this.fr.os,this.fr.tape,this.fr.output,this.fr.size,fun b hb _ => (hfr us).block b hb (fun h => h)⟩,fun j q' v' b h1 h2 h3 => ?_,this.len⟩
        rcases this.blk j q' v' b h1 h2 h3 with h|⟨q,v,g1,g2,g3⟩
        · exact .inl h
        · obtain ⟨q0,g4,g5⟩:=frzs_blk g1
          exact .inr ⟨q0,v,g4,g2,g5 v b g3⟩⟩
      · have hb:=blk_row.1 hb
        simp only [Value.ownBlock,Option.some.injEq] at hb
        subst hb;simp
      · rw [RepL.length g1,flat_len hu]
      · simp only [maxLen];omega
      · simp [RepL.length g1,flat_len hu,g3]
      · simp;rw [List.take_of_length_le (by rw [RepL.length g1,flat_len hu];exact Nat.le_refl _)]
      · omega
      · simp only [Value.ownBlock,Option.some.injEq] at hb
        subst hb
        exact Nat.le_trans c.hlo S.fr.size
      · simp only [VSim]
        rw [← S1.len];simp
    · trivial
theorem setL_sim {ok : Nat → Prop} {lo : Nat} : ∀ {xs : List A} {vs : List Value} {zs : List A} {us : List Value} (off : Nat),VSimL w ok lo β xs vs → VSimL w ok lo β zs us → VSimL w ok lo β (setL zs off xs) (listSet us off vs)
  | [],[],_,_,_,_,h => h
  | x :: xs,v :: vs,zs,us,off,h,h' => by
    simp only [VSimL] at h
    simp only [setL,listSet]
    exact setL_sim (off + 1) h.2 (VSimL.set h.1 off h')
  | [],_ :: _,_,_,_,h,_ => by simp [VSimL] at h
  | _ :: _,[],_,_,_,h,_ => by simp [VSimL] at h
theorem bld_all (S : Sim c σ β a w) {fs : Array Field} (places : Array (Nat × Nat)) (hpl : ∀ (i : Nat) (f : Field),fs[i]? = some f → places[i]? = some (f.offset,P.cellsOf f.type)) : ∀ (parts : List (Nat × Operand)) (l : List (Nat × Nat × X)) (zs : List A) (us : List Value) (xs : List A),
    bldParts P fs parts = some l → VSimL w (okOf c w σ.h β) c.lo β zs us → bldA σ zs l = some xs →
    ∃ vs,Instr.fill (places[·]?) us.toArray (parts.map (fun p => (p.1,a.eval p.2))) = some vs.toArray ∧ VSimL w (okOf c w σ.h β) c.lo β xs vs
  | [],l,zs,us,xs,h1,h2,h3 => by
    simp only [bldParts,Option.some.injEq] at h1
    subst h1
    simp only [bldA,Option.some.injEq] at h3
    subst h3
    exact ⟨us,by simp [Instr.fill],h2⟩
  | (i,x) :: parts,l,zs,us,xs,h1,h2,h3 => by
    simp only [bldParts] at h1
    cases hf : fs[i]? with
    | none => rw [hf] at h1;cases h1
    | some f =>
    cases hl : bldParts P fs parts with
    | none => rw [hf,hl] at h1;cases h1
    | some l' =>
    rw [hf,hl] at h1
    simp only [Option.some.injEq] at h1
    subst h1
    have hx:=S.ev x
    have hul:=VSimL.length h2
    simp only [bldA] at h3
    have key : ∀ y,(toX x).ev σ = y → (bif one y && Nat.beq (P.cellsOf f.type) 1 && Nat.ble (f.offset + 1) zs.length then bldA σ (zs.set f.offset y) l' else none) = some xs →
        ∃ vs,Instr.fill (places[·]?) us.toArray (((i,x) :: parts).map (fun p => (p.1,a.eval p.2))) = some vs.toArray ∧ VSimL w (okOf c w σ.h β) c.lo β xs vs:=by
      intro y hy h
      cases hc : (one y && Nat.beq (P.cellsOf f.type) 1 && Nat.ble (f.offset + 1) zs.length) with
      | false => rw [hc] at h;cases h
      | true =>
        rw [hc] at h
        simp only [cond_true] at h
        simp only [Bool.and_eq_true] at hc
        rw [hy] at hx
        have hone:=one_of S.vone hc.1.1 hx
        have h4:=Nat.eq_of_beq_eq_true hc.1.2
        have h5:=Nat.le_of_ble_eq_true hc.2
        obtain ⟨vs,g1,g2⟩:=bld_all S places hpl parts l' (zs.set f.offset y) (us.set f.offset (a.eval x)) xs hl (VSimL.set hx _ h2) h
        refine ⟨vs,?_,g2⟩
        rw [List.map_cons,fill_step (off:=f.offset) (size:=P.cellsOf f.type) (hp:=hpl i f hf) (h1:=by rw [cells_one hone,h4];rfl) (h2:=by simp;omega)]
        rw [cells_one hone]
        exact g1
    split at h3
    · rename_i ys hys
      rw [hys] at hx
      obtain ⟨vs0,hv,hs⟩:=hx
      cases hc : (Nat.beq ys.length (P.cellsOf f.type) && Nat.ble (f.offset + P.cellsOf f.type) zs.length) with
      | false => rw [hc] at h3;cases h3
      | true =>
        rw [hc] at h3
        simp only [cond_true] at h3
        simp only [Bool.and_eq_true] at hc
        have h4:=Nat.eq_of_beq_eq_true hc.1
        have h5:=Nat.le_of_ble_eq_true hc.2
        obtain ⟨vs,g1,g2⟩:=bld_all S places hpl parts l' _ _ xs hl (setL_sim f.offset hs h2) h3
        refine ⟨vs,?_,g2⟩
        rw [List.map_cons,fill_step (off:=f.offset) (size:=P.cellsOf f.type) (hp:=hpl i f hf) (h1:=by rw [hv];simp [Value.cells,VSimL.length hs,h4]) (h2:=by simp;omega)]
        rw [hv]
        exact g1
    · exact key _ rfl h3
def plc (f : Field) : Sem (Nat × Nat):=do pure (f.offset,← sizeOf f.type)
theorem run_plc (w : World) {f : Field} {i : TypeInfo} (hi : P.info? f.type = some i) : (plc f).run P w = .ok (f.offset,P.cellsOf f.type) w:=by
  simp [plc,sizeOf,typeInfo,hi,cellsOf_eq hi]
theorem run_mapM_places (w : World) : ∀ (l : List Field),(∀ f,f ∈ l → (P.info? f.type).isSome = true) → (l.mapM plc).run P w = .ok (l.map (fun f => (f.offset,P.cellsOf f.type))) w
  | [],_ => rfl
  | f :: l,h => by
    obtain ⟨i,hi⟩:=Option.isSome_iff_exists.1 (h f (List.mem_cons_self ..))
    have ih:=run_mapM_places w l (fun g hg => h g (List.mem_cons_of_mem _ hg))
    simp only [List.mapM_cons,Sem.run_bind,run_plc w hi,Result.andThen_ok,ih,Sem.run_pure,List.map_cons]
theorem ok_bld (S : Sim c σ β a w) {t : TypeId} {parts : Array (Nat × Operand)} {fs : Array Field} {l : List (Nat × Nat × X)} {z : Value} (ho : o.op = .build t parts) (ht : P.underlying t = some (.struct fs)) (hz : (P.info? t).bind (·.zero) = some z)
    (hfs : fs.toList.all (fun f => (P.info? f.type).isSome) = true) (hl : bldParts P fs parts.toList = some l) : ResOk P c o σ β a w ((I.bld (z.cells.toList.map A.ofVal1) l).res σ):=by
  obtain ⟨i,hi,hz⟩:=Option.bind_eq_some_iff.1 hz
  simp only [I.res]
  split
  · rename_i xs hxs
    intro _
    have hpl : ∀ (j : Nat) (f : Field),fs[j]? = some f → (fs.map (fun f => (f.offset,P.cellsOf f.type)))[j]? = some (f.offset,P.cellsOf f.type):=fun j f h => by simp [h]
    obtain ⟨vs,g1,g2⟩:=bld_all S (P:=P) _ hpl parts.toList l _ z.cells.toList xs hl (ofValL_sim _) hxs
    refine ⟨.agg vs.toArray,fun w' _ _ _ => ?_,?_⟩
    · have hm:=run_mapM_places (P:=P) w' fs.toList (fun f hf => by have:=List.all_eq_true.1 hfs f hf;exact this)
      have hm' : (fs.mapM (fun f => do pure (f.offset,← sizeOf f.type) : Field → Sem (Nat × Nat))).run P w' = .ok (fs.map (fun f => (f.offset,P.cellsOf f.type))) w':=by
        show (fs.mapM plc).run P w' = _
        rw [Array.mapM_eq_mapM_toList,map_eq_pure_bind,Sem.run_bind,hm]
        simp only [Result.andThen_ok,Sem.run_pure]
        congr 1
        apply Array.ext'
        simp
      have hparts : (parts.map (fun p => (p.1,a.eval p.2))).toList = parts.toList.map (fun p => (p.1,a.eval p.2)):=by simp
      rw [← hparts,Array.toArray_toList] at g1
      simp only [execOp,ho,Sem.run_bind,Instr.build,zeroValue,typeInfo,run_program,hi,hz,Result.andThen_ok,Sem.run_pure,run_underlying ht,hm',g1]
    · simp only [VSim]
      exact ⟨vs,rfl,g2⟩
  · trivial
end
end Go.Proofs.YtlddcimpdkcgeaaGreatDoor.Sym
namespace Go.Proofs.YtlddcimpdkcgeaaGreatDoor.Sym
open List (append_nil)
open Go.RowKit
section
variable {P : Program} {c : Cx} {σ : St} {β : List Value} {a : Act} {w w' : World} {o : Oper}
theorem run_bound {k : IntKind} {n : Int} {y : Nat} (code : BoundsCode) (h0 : 0 ≤ n) (h1 : n ≤ y) : (Instr.sliceBound (.int k n) y code).run P w = .ok n.toNat w:=by
  simp [Instr.sliceBound,asIntOf,h0,h1]
theorem run_bounds (b : Bool) (len cap : Nat) (hlc : len ≤ cap) (lo hi : Option Value) (l h : Int) (hlo : (lo = none ∧ l = 0) ∨ (∃ k,lo = some (.int k l))) (hhi : (hi = none ∧ h = len) ∨ (∃ k,hi = some (.int k h)))
    (h0 : 0 ≤ l) (h1 : l ≤ h) (h2 : h ≤ len) : (Instr.sliceBounds b len cap lo hi none).run P w = .ok (l.toNat,h.toNat,cap) w:=by
  have e1 : ∀ k,(Instr.sliceBound (.int k h) cap (if b then .sliceAcap else .sliceAlen)).run P w = .ok h.toNat w:=fun k => run_bound _ (by omega) (by omega)
  have e2 : ∀ k,(Instr.sliceBound (.int k l) h.toNat .sliceB).run P w = .ok l.toNat w:=fun k => run_bound _ h0 (by omega)
  rcases hlo with ⟨rfl,rfl⟩|⟨k,rfl⟩ <;> rcases hhi with ⟨rfl,rfl⟩|⟨k',rfl⟩
  · simp [Instr.sliceBounds]
  · simp only [Instr.sliceBounds,Sem.run_bind,Sem.run_pure,Result.andThen_ok,e1]
    simp
  · have:=e2 k
    simp only [Int.toNat_natCast] at this
    simp [Instr.sliceBounds,this]
  · simp only [Instr.sliceBounds,Sem.run_bind,Sem.run_pure,Result.andThen_ok,e1]
    simp [e2]
theorem slc_lo (S : Sim c σ β a w) {lo : Option Operand} {o1 : Bool} {k : IntKind} {l : Int} (hl : (match lo.map toX with|none => A.d true (.int .i64 0)|some x => peel (x.ev σ)) = .d o1 (.int k l)) (hg : peelG ((((lo.map toX).map (X.ev σ))).getD .any) = true) :
    (lo.map a.eval = none ∧ l = 0) ∨ (∃ k,lo.map a.eval = some (.int k l)):=by
  cases lo with
  | none =>
    simp only [Option.map_none,A.d.injEq,D.int.injEq] at hl
    exact .inl ⟨rfl,hl.2.2.symm⟩
  | some x =>
    simp only [Option.map_some] at hl hg ⊢
    have h:=(S.ev x).peel hg
    rw [hl] at h
    exact .inr ⟨k,by rw [(vint h).1]⟩
theorem slc_hi (S : Sim c σ β a w) {hi : Option Operand} {o1 : Bool} {k : IntKind} {h : Int} {n : Nat} (hl : (match hi.map toX with|none => A.d true (.int .i64 n)|some x => peel (x.ev σ)) = .d o1 (.int k h)) (hg : peelG ((((hi.map toX).map (X.ev σ))).getD .any) = true) :
    (hi.map a.eval = none ∧ h = n) ∨ (∃ k,hi.map a.eval = some (.int k h)):=by
  cases hi with
  | none =>
    simp only [Option.map_none,A.d.injEq,D.int.injEq] at hl
    exact .inl ⟨rfl,hl.2.2.symm⟩
  | some x =>
    simp only [Option.map_some] at hl hg ⊢
    have h':=(S.ev x).peel hg
    rw [hl] at h'
    exact .inr ⟨k,by rw [(vint h').1]⟩
theorem guards3 {x y z : A} (h : guards [x,y,z]) : peelG x = true ∧ peelG y = true ∧ peelG z = true:=by
  cases x <;> cases y <;> cases z <;> simp_all [guards,peelG]
theorem ok_sls (S : Sim c σ β a w) {t : TypeId} {x : Operand} {lo hi : Option Operand} (ho : o.op = .slice t x lo hi none) (ht : P.underlying t = some .string) :
    ResOk P c o σ β a w ((I.sls (toX x) (lo.map toX) (hi.map toX)).res σ):=by
  have hx:=S.ev x
  simp only [I.res]
  split
  · rename_i o1 s o2 k l hp hl
    split
    · rename_i o3 k3 h hh
      rintro ⟨hg,h0,h1,h2⟩
      have hg:=guards3 hg
      have hx:=hx.peel hg.1
      rw [hp] at hx
      have hlo:=slc_lo S hl hg.2.1
      have hhi:=slc_hi S hh hg.2.2
      refine ⟨.string (s.extract l.toNat h.toNat),fun w' _ _ _ => ?_,vsim_str _ ?_⟩
      · have hb:=run_bounds (P:=P) (w:=w') false s.size s.size (Nat.le_refl _) (lo.map a.eval) (hi.map a.eval) l h hlo hhi h0 h1 (by omega)
        simp [execOp,ho,(vstr hx).1,Instr.sliceAt,run_underlying ht,Instr.slice,hb]
      · have:=(vstr hx).2
        have h3 : (s.extract l.toNat h.toNat).size = min h.toNat s.size - l.toNat:=by simp
        omega
    · trivial
  · trivial
theorem Rep.part {ok : Nat → Prop} {xs : List (List D)} {ad : Option Addr} {cc e l h : Nat} (hr : Rep w ok (.slice ad xs.length cc) (.sl xs)) (he : ∀ ds,ds ∈ xs → ds.length = e) (hl : l ≤ h) (hh : h ≤ xs.length) :
    Rep w ok (.slice (if cc = l then ad else ad.map (·.add (l * e))) (h - l) (cc - l)) (.sl ((xs.take h).drop l)):=by
  have hlen : ((xs.take h).drop l).length = h - l:=by rw [List.length_drop,List.length_take];omega
  obtain ⟨a',c',hv,hc,hm,hcells⟩:=hr.cells
  injection hv with h1 h2 h3
  subst h1;subst h3
  rcases Nat.eq_zero_or_pos (h - l) with h0|h0
  · have : (xs.take h).drop l = []:=List.eq_nil_of_length_eq_zero (by omega)
    rw [this,h0]
    exact Rep.nil _ _ _ _
  · obtain ⟨b,o',us,rfl,hb,hcell,hrep⟩:=hcells e he (by omega)
    rw [if_neg (by omega),← hlen]
    simp only [Option.map_some,addr_add]
    have hall : ∀ ds,ds ∈ (xs.take h).drop l → ds.length = e:=fun ds hd => he ds (List.mem_of_mem_take (List.mem_of_mem_drop hd))
    have hflat : ((xs.take h).drop l).flatten = (xs.flatten.take (h * e)).drop (l * e):=by
      have htake : ∀ (n : Nat) (ys : List (List D)),(∀ ds,ds ∈ ys → ds.length = e) → (ys.take n).flatten = ys.flatten.take (n * e):=by
        intro n
        induction n with
        | zero => intro ys _;simp
        | succ n ih =>
          intro ys hy
          cases ys with
          | nil => simp
          | cons y ys =>
            have hye:=hy y (List.mem_cons_self ..)
            rw [List.take_succ_cons,List.flatten_cons,List.flatten_cons,ih ys (fun ds hd => hy ds (List.mem_cons_of_mem _ hd)),show (n + 1) * e = y.length + n * e by rw [hye,Nat.succ_mul];omega,List.take_length_add_append]
      have hdrop : ∀ (n : Nat) (ys : List (List D)),(∀ ds,ds ∈ ys → ds.length = e) → (ys.drop n).flatten = ys.flatten.drop (n * e):=by
        intro n
        induction n with
        | zero => intro ys _;simp
        | succ n ih =>
          intro ys hy
          cases ys with
          | nil => simp
          | cons y ys =>
            have hye:=hy y (List.mem_cons_self ..)
            rw [List.drop_succ_cons,List.flatten_cons,ih ys (fun ds hd => hy ds (List.mem_cons_of_mem _ hd)),show (n + 1) * e = y.length + n * e by rw [hye,Nat.succ_mul];omega,List.drop_length_add_append]
      rw [hdrop l _ (fun ds hd => he ds (List.mem_of_mem_take hd)),htake h xs he]
    refine Rep.of_cells (us:=(us.take (h * e)).drop (l * e)) (by omega) (by omega) hall hb (fun i u hu => ?_) (by rw [hflat];exact (hrep.take _).drop _)
    rw [List.getElem?_drop,List.getElem?_take] at hu
    split at hu
    · rw [Nat.add_assoc];exact hcell _ u hu
    · cases hu
theorem ok_slc (S : Sim c σ β a w) {t e : TypeId} {x : Operand} {lo hi : Option Operand} (ho : o.op = .slice t x lo hi none) (ht : P.underlying t = some (.slice e)) (hi' : (P.info? e).isSome = true) :
    ResOk P c o σ β a w ((I.slc (P.cellsOf e) (toX x) (lo.map toX) (hi.map toX)).res σ):=by
  obtain ⟨ti,hti⟩:=Option.isSome_iff_exists.1 hi'
  have hx:=S.ev x
  simp only [I.res]
  split
  · rename_i o1 xs o2 k l hp hl
    split
    · rename_i o3 k3 h hh
      rintro ⟨hg,h0,h1,h2,he⟩
      have hg:=guards3 hg
      have hx:=hx.peel hg.1
      rw [hp] at hx
      have hlo:=slc_lo S hl hg.2.1
      have hhi:=slc_hi S hh hg.2.2
      have hr:=hx.read
      obtain ⟨ad,cc,hv,hc,hm,_⟩:=hr.cells
      rw [hv] at hr
      have hpart:=hr.part he (l:=l.toNat) (h:=h.toNat) (by omega) (by omega)
      refine ⟨_,fun w' _ _ _ => ?_,by simp only [VSim];exact hpart⟩
      have hb:=run_bounds (P:=P) (w:=w') true xs.length cc hc (lo.map a.eval) (hi.map a.eval) l h hlo hhi h0 h1 (by omega)
      simp [execOp,ho,hv,Instr.sliceAt,run_underlying ht,Instr.slice,hb,sizeOf,typeInfo,hti,cellsOf_eq hti]
    · trivial
  · trivial
theorem bytes_fold : ∀ (ns : List Int) (s : ByteArray),(ns.foldl (fun r n => r.push (UInt8.ofNat n.toNat)) s) = ⟨(s.data.toList ++ ns.map (fun n => UInt8.ofNat n.toNat)).toArray⟩
  | [],s => by simp
  | n :: ns,s => by
    rw [List.foldl_cons,bytes_fold ns]
    simp [ByteArray.push]
theorem areBytes_ns : ∀ {xs : List (List D)},areBytes xs → ∃ ns : List Int,xs = ns.map (fun n => [D.int .u8 n])
  | [],_ => ⟨[],rfl⟩
  | [.int .u8 n] :: r,h => by
    obtain ⟨ns,hns⟩:=areBytes_ns (xs:=r) h
    exact ⟨n :: ns,by simp [hns]⟩
theorem flat_one : ∀ ns : List Int,(ns.map (fun n => [D.int .u8 n])).flatten = ns.map (fun n => D.int .u8 n)
  | [] => rfl
  | n :: ns => by simp [flat_one ns]
theorem ints_of {ok : Nat → Prop} : ∀ {ns : List Int} {us : List Value},RepL w ok us (ns.map (fun n => D.int .u8 n)) → us = ns.map (Value.int .u8)
  | [],[],_ => rfl
  | [],_ :: _,h => h.elim
  | _ :: _,[],h => h.elim
  | n :: ns,u :: us,h => by
    have h1:=h.1
    have h2 : u = .int .u8 n:=by cases h1;rfl
    rw [h2,ints_of (ns:=ns) h.2,List.map_cons]
theorem ok_bstr (S : Sim c σ β a w) {s d e : TypeId} {x : Operand} (ho : o.op = .convert s d x) (hs : P.underlying s = some (.slice e)) (he : P.underlying e = some (.int .u8)) (hd : P.underlying d = some .string) : ResOk P c o σ β a w ((I.bstr (toX x)).res σ):=by
  have hx:=S.ev x
  simp only [I.res]
  split
  · rename_i xs hxs
    intro hb
    obtain ⟨ns,rfl⟩:=areBytes_ns hb
    have hall : ∀ l,l ∈ ns.map (fun n => [D.int .u8 n]) → l.length = 1:=by
      intro l hl
      obtain ⟨n,_,rfl⟩:=List.mem_map.1 hl
      rfl
    have hby : bytesD (ns.map (fun n => [D.int .u8 n])) = ns.map (fun n => UInt8.ofNat n.toNat):=by simp [bytesD]
    have hflat : (ns.map (fun n => [D.int .u8 n])).flatten = ns.map (fun n => D.int .u8 n):=by
      exact flat_one ns
    obtain ⟨ad,cc,hv,hsrc⟩:=rowOf_src S hxs hx hall
    have hlen : (ns.map (fun n => [D.int .u8 n])).length ≤ 140737488355328:=by
      exact rowOf_len S hxs hx
    refine ⟨.string ⟨(bytesD (ns.map (fun n => [D.int .u8 n]))).toArray⟩,fun w' B hw hA => ?_,vsim_str _ ?_⟩
    · have hnB : ∀ b,¬ B b:=fun b hb => by obtain ⟨_,_,_,_,_,_,h4⟩:=hA b hb;unfold rdO at h4;rw [ho] at h4;cases h4
      have h1:=run_convert_bytes_string (P:=P) w' s d e ad (ns.map (fun n => [D.int .u8 n])).length cc hs he hd
      have h2 : (Conv.bytesToString (.slice ad (ns.map (fun n => [D.int .u8 n])).length cc)).run P w' = .ok (.string ⟨(bytesD (ns.map (fun n => [D.int .u8 n]))).toArray⟩) w':=by
        rcases Nat.eq_zero_or_pos ns.length with h0|h0
        · have:=List.eq_nil_of_length_eq_zero h0
          subst this
          cases ad with
          | none => simp [Conv.bytesToString,bytesD];rfl
          | some ad => simp [Conv.bytesToString,bytesD,loadCells,loadCellsFrom];rfl
        · obtain ⟨b,o',us,rfl,hl,hc,hr⟩:=hsrc (by simpa using h0)
          have hus : us = ns.map (Value.int .u8):=by
            rw [hflat] at hr
            exact ints_of hr
          subst hus
          have:=run_bytesToString (P:=P) w' ⟨b,o',none⟩ ns.length cc ns (by
            have:=run_loadCells_list (P:=P) w' ⟨b,o',none⟩ (ns.map (Value.int .u8)) (fun j v hv => by
              rw [addr_add]
              have h1:=hc j v hv
              exact (cell_same (hw.block b (World.block_lt_of_cell? w ⟨b,o' + j,none⟩ h1) (hnB b))).trans h1)
            simpa using this)
          rw [bytes_fold] at this
          rw [List.length_map,this,hby]
          rfl
      have h3 : (execOp a.eval o).run P w' = (do let v ← convert s d (a.eval x);pure (Next.value v) : Sem Next).run P w':=by simp only [execOp,ho]
      rw [h3,Sem.run_bind,hv,h1,h2]
      rfl
    · rw [hby]
      show (ns.map (fun n => UInt8.ofNat n.toNat)).toArray.size ≤ _
      simp at hlen ⊢
      omega
  · trivial
theorem one_list {α : Type} {l : Array α} {x : α} (h : l.toList = [x]) : l = #[x]:=by cases l;simp_all
theorem two_list {α : Type} {l : Array α} {x y : α} (h : l.toList = [x,y]) : l = #[x,y]:=by cases l;simp_all
theorem rowI_ok {t : TypeId} {k : TypeId → TypeInfo → Value → I} (h : ∀ e i z,P.underlying t = some (.slice e) → P.info? e = some i → i.zero = some z → z.cells.size = i.size → 0 < i.size → ResOk P c o σ β a w ((k e i z).res σ)) :
    ResOk P c o σ β a w ((rowI P t k).res σ):=by
  unfold rowI
  split
  · rename_i e hu
    split
    · rename_i i hi
      split
      · rename_i z hz
        split
        · rename_i hh;exact h e i z hu hi hz hh.1 hh.2
        · trivial
      · trivial
    · trivial
  · trivial
theorem ok_asg (S : Sim c σ β a w) {x : Operand} (ho : o.op = .assign x) : ResOk P c o σ β a w ((asgI P o.type x).res σ):=by
  unfold asgI
  split
  · split
    · exact ok_own S ho
    · exact ok_mv (P:=P) (σ:=σ) S (x:=.const (.slice none 0 0)) (.inr ho)
  · exact ok_mv S (.inr ho)
theorem ok_callI (S : Sim c σ β a w) {cl : Call} (ho : o.op = .call cl) : ResOk P c o σ β a w ((callI P cl).res σ):=by
  unfold callI
  split
  · rename_i hc
    unfold lenI
    split
    · rename_i x t h1 h2
      split
      · rename_i e hu;exact ok_len S ho hc (one_list h1) (one_list h2) hu
      · rename_i hu;exact ok_slen S ho hc (one_list h1) (one_list h2) hu
      · trivial
    · trivial
  · rename_i hc
    unfold appI
    split
    · rename_i s x t u h1 h2
      split
      · rename_i htu
        subst htu
        exact rowI_ok (fun e i z hu hi hz h3 h4 => ok_app S ho hc (two_list h1) (two_list h2) hu hi hz h3 h4)
      · trivial
    · trivial
  · rename_i f hc;exact ok_call S ho hc
  · trivial
theorem res_ok (S : Sim c σ β a w) (o : Oper) : ResOk P c o σ β a w ((toI P o).res σ):=by
  unfold toI
  cases ho : o.op with
  | assign x => exact ok_asg S ho
  | move x => exact ok_mv S (.inl ho)
  | pick x y z => exact ok_pick S ho
  | box t x => exact ok_box S ho
  | alloc t =>
    simp only
    split
    · rename_i z hz
      unfold allocI
      split
      · rename_i e n he
        refine ok_allocR S ho hz ?_
        unfold allocE at he
        split at he
        · assumption
        · cases he
      · exact ok_alloc S ho hz
    · trivial
  | load t p =>
    simp only
    unfold ldI
    split
    · rename_i fs hu;exact ok_ldn S ho hu
    · trivial
    · rename_i d h1 h2 hu
      refine ok_ld1 S ho hu ?_
      cases d <;> first|rfl|exact absurd rfl (h1 _)|exact absurd rfl (h2 _ _)
    · trivial
  | store t p v =>
    simp only
    split
    · rename_i hi;exact ok_st S ho hi
    · trivial
  | fieldAddr t x f =>
    simp only
    unfold faI
    split
    · rename_i fs hu
      split
      · rename_i fd hf
        split
        · trivial
        · rename_i hn;exact ok_fa S ho hu hf hn
      · trivial
    · trivial
  | indexAddr t x i =>
    simp only
    unfold iaI
    split
    · rename_i e hu
      split
      · rename_i hi;exact ok_ia S ho hu hi
      · trivial
    · trivial
  | index t x i =>
    simp only
    unfold ixI
    split
    · rename_i hu;exact ok_ix S ho hu
    · trivial
  | binOp op t x y u => exact ok_binI S ho
  | unOp op t x =>
    simp only
    split
    · exact ok_not S ho
    · trivial
  | convert s d x =>
    simp only
    unfold cvI
    split
    · rename_i k' k hs hd;exact ok_cvi S ho hs hd
    · rename_i e hs hd
      split
      · rename_i he;exact ok_bstr S ho hs he hd
      · trivial
    · trivial
  | call cl => exact ok_callI S ho
  | nilCheck x => exact ok_ck S ho
  | makeSlice t l c' => exact rowI_ok (fun e i z hu hi hz h3 h4 => ok_mks S ho hu hi hz h3 h4)
  | buildSlice t n parts =>
    refine rowI_ok (fun e i z hu hi hz h3 h4 => ?_)
    unfold bsI
    split
    · rename_i hh
      split
      · rename_i l hl;exact ok_bs S ho hu hi hz h3 h4 hh.1 hh.2 hl
      · trivial
    · trivial
  | build t parts =>
    simp only
    unfold bldI
    split
    · rename_i fs hu
      split
      · rename_i z l hz hl
        split
        · rename_i hh;exact ok_bld S ho hu hz hh hl
        · trivial
      · trivial
    · trivial
  | slice t x lo hi mx =>
    simp only
    split
    · unfold slI
      split
      · rename_i hu;exact ok_sls S ho hu
      · rename_i e hu
        split
        · rename_i hi;exact ok_slc S ho hu hi
        · trivial
      · trivial
    · trivial
  | makeFunc fn first cap =>
    simp only
    unfold mkfI
    split
    · rename_i f cap' hf
      have : first = #[]:=by cases first;simp_all
      subst this
      exact ok_mkf S ho
    · trivial
  | extract x i => exact ok_ext S ho
  | _ => trivial
end
end Go.Proofs.YtlddcimpdkcgeaaGreatDoor.Sym
