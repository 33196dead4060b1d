/- Terms that are marked: what lies in memory. -/
import Derived.Test.YtlddcimpdkcgeaaGreatDoorM1
set_option linter.unusedVariables false
set_option linter.unusedSimpArgs false
set_option maxHeartbeats 2000000
namespace Go.Proofs.YtlddcimpdkcgeaaGreatDoor
open Go.RowKit Sym
theorem own_sl_inv {w : World} {u : Value} {xs : List (List D)} {F : List Nat} (h : OwnL w [u] [.sl xs] F) (hp : 0 < xs.length) :
    ∃ b c cells ety e F1,u = .slice (some ⟨b,0,none⟩) xs.length c ∧ F = b :: F1 ∧ w.heap[b]? = some (.cells cells ety (0,0)) ∧ (∀ l,l ∈ xs → l.length = e) ∧ xs.length ≤ c ∧ c ≤ maxLen ∧ cells.size = c * e ∧ xs.length ≤ 140737488355328 ∧ OwnL w (cells.toList.take (xs.length * e)) xs.flatten F1:=by
  generalize hd : [D.sl xs] = dd at h
  generalize hv : [u] = vv at h
  cases h with
  | nil => cases hd
  | int => simp at hd
  | bool => simp at hd
  | str => simp at hd
  | none a c vs ds F h =>
    simp only [List.cons.injEq,D.sl.injEq] at hd
    obtain ⟨rfl,_⟩:=hd
    simp at hp
  | sl b c cells ety e xs' vs ds F1 F2 h0 h1 h2 h3 h4 h5 h6 h7 h8 =>
    simp only [List.cons.injEq,D.sl.injEq] at hd hv
    obtain ⟨rfl,rfl⟩:=hd
    obtain ⟨rfl,rfl⟩:=hv
    cases h8
    exact ⟨b,c,cells,ety,e,F1,rfl,by simp,h1,h2,h3,h4,h5,h6,h7⟩
theorem encs_flat (pre : List Term) : (encs pre).flatten.length = pre.length * 4:=by rw [flat_len (encs_each pre),encs_length]
theorem own_int_inv {w : World} {vs : List Value} {k : IntKind} {n : Int} {ds : List D} {F : List Nat} (h : OwnL w vs (.int k n :: ds) F) : ∃ vs',vs = .int k n :: vs' ∧ OwnL w vs' ds F:=by
  generalize hd : (D.int k n :: ds) = dd at h
  cases h with
  | int k' n' vs ds' F h1 h2 h =>
    simp only [List.cons.injEq,D.int.injEq] at hd
    obtain ⟨⟨rfl,rfl⟩,rfl⟩:=hd
    exact ⟨vs,rfl,h⟩
  | nil => cases hd
  | bool => simp at hd
  | str => simp at hd
  | none => simp at hd
  | sl => simp at hd
theorem own_str_inv {w : World} {vs : List Value} {x : ByteArray} {ds : List D} {F : List Nat} (h : OwnL w vs (.str x :: ds) F) : ∃ vs',vs = .string x :: vs' ∧ OwnL w vs' ds F:=by
  generalize hd : (D.str x :: ds) = dd at h
  cases h with
  | str s vs ds' F h1 h =>
    simp only [List.cons.injEq,D.str.injEq] at hd
    obtain ⟨rfl,rfl⟩:=hd
    exact ⟨vs,rfl,h⟩
  | nil => cases hd
  | bool => simp at hd
  | int => simp at hd
  | none => simp at hd
  | sl => simp at hd
theorem own4 {w : World} {vs : List Value} {t : Term} {F : List Nat} (h : OwnL w vs t.enc F) : ∃ u3,vs = [.int .i64 t.op,.int .i64 t.n,.string t.s,u3] ∧ OwnL w [u3] [.sl (encs t.kids)] F:=by
  rw [Term.enc_eq] at h
  obtain ⟨v1,e1,h1⟩:=own_int_inv h
  obtain ⟨v2,e2,h2⟩:=own_int_inv h1
  obtain ⟨v3,e3,h3⟩:=own_str_inv h2
  match v3,h3.length with
  | [u3],_ => exact ⟨u3,by rw [e1,e2,e3],h3⟩
theorem own_elem {w : World} {u : Value} {pre suf : List Term} {t : Term} {F : List Nat} (h : OwnL w [u] [.sl (encs (pre ++ t :: suf))] F) (hn : F.Nodup) :
    ∃ b c cells ety u3 Fk,u = .slice (some ⟨b,0,none⟩) (pre.length + (suf.length + 1)) c ∧ w.heap[b]? = some (.cells cells ety (0,0)) ∧ b ∈ F ∧ b ∉ Fk ∧ (∀ x,x ∈ Fk → x ∈ F) ∧ Fk.Nodup ∧ OwnL w [u3] [.sl (encs t.kids)] Fk ∧
      pre.length * 4 + 4 ≤ cells.size ∧ cells[pre.length * 4 + 3]? = some u3 ∧ pre.length + (suf.length + 1) ≤ 140737488355328 ∧
      ∀ (w' : World) (cells' : Array Value) (t' : Term),w'.heap[b]? = some (.cells cells' ety (0,0)) → cells'.size = cells.size → (∀ j,j < pre.length * 4 ∨ pre.length * 4 + 4 ≤ j → cells'[j]? = cells[j]?) →
        (∀ x,x ∈ F → x ≠ b → x ∉ Fk → w'.heap[x]? = w.heap[x]?) → OwnL w' [u3] [.sl (encs t'.kids)] Fk →
        cells'[pre.length * 4]? = some (.int .i64 t'.op) → cells'[pre.length * 4 + 1]? = some (.int .i64 t'.n) → cells'[pre.length * 4 + 2]? = some (.string t'.s) → cells'[pre.length * 4 + 3]? = some u3 →
        IntKind.i64.min ≤ t'.op → t'.op ≤ IntKind.i64.max → IntKind.i64.min ≤ t'.n → t'.n ≤ IntKind.i64.max → t'.s.size ≤ 4611686018427387904 → OwnL w' [u] [.sl (encs (pre ++ t' :: suf))] F:=by
  have hlen : (encs (pre ++ t :: suf)).length = pre.length + (suf.length + 1):=by simp [encs_length]
  obtain ⟨b,c,cells,ety,e,F1,rfl,rfl,h1,h2,h3,h4,h5,h6,h7⟩:=own_sl_inv h (by rw [hlen];omega)
  have he : e = 4:=by
    have:=h2 t.enc (by rw [encs_app];simp [encs])
    rw [enc_length] at this;exact this.symm
  subst he
  rw [hlen] at h3 h6 h7 ⊢
  have hcs : pre.length * 4 + 4 ≤ cells.size:=by rw [h5];have:=Nat.mul_le_mul_right 4 h3;omega
  obtain ⟨Fa,Fb,rfl,g1,g2⟩:=h7.split (pre.length * 4)
  obtain ⟨Fk,Fc,rfl,g3,g4⟩:=g2.split 4
  have hfl : (encs (pre ++ t :: suf)).flatten = (encs pre).flatten ++ (t.enc ++ (encs suf).flatten):=by rw [encs_app,List.flatten_append];simp [encs]
  have e1 : (encs (pre ++ t :: suf)).flatten.take (pre.length * 4) = (encs pre).flatten:=by rw [hfl,List.take_left' (encs_flat pre)]
  have e2 : (encs (pre ++ t :: suf)).flatten.drop (pre.length * 4) = t.enc ++ (encs suf).flatten:=by rw [hfl,List.drop_left' (encs_flat pre)]
  rw [e1] at g1
  rw [e2] at g3 g4
  rw [List.take_left' (enc_length t)] at g3
  rw [List.drop_left' (enc_length t)] at g4
  obtain ⟨u3,hvs,hk⟩:=own4 g3
  have hat : ∀ j,j < 4 → cells[pre.length * 4 + j]? = [Value.int .i64 t.op,.int .i64 t.n,.string t.s,u3][j]?:=by
    intro j hj
    rw [← hvs,List.getElem?_take,if_pos hj,List.getElem?_drop,List.getElem?_take,if_pos (by omega)]
    simp
  simp only [List.nodup_cons,List.nodup_append,List.mem_append] at hn
  refine ⟨b,c,cells,ety,u3,Fk,rfl,h1,by simp,fun hb => hn.1 (.inr (.inl hb)),fun x hx => by simp [hx],hn.2.2.1.1,hk,hcs,hat 3 (by omega),h6,?_⟩
  intro w' cells' t' k1 k2 k3 k4 k5 k6 k7 k8 k9 r1 r2 r3 r4 r5
  have hlen' : (encs (pre ++ t' :: suf)).length = pre.length + (suf.length + 1):=by simp [encs_length]
  have hfl' : (encs (pre ++ t' :: suf)).flatten = (encs pre).flatten ++ (t'.enc ++ (encs suf).flatten):=by rw [encs_app,List.flatten_append];simp [encs]
  have:=OwnL.sl b c cells' ety 4 (encs (pre ++ t' :: suf)) [] [] (Fa ++ (Fk ++ Fc)) [] (by rw [hlen'];omega) k1 (encs_each _) (by rw [hlen'];exact h3) h4 (by rw [k2,h5]) (by rw [hlen'];exact h6) ?_ .nil
  · rw [hlen'] at this;simpa using this
  rw [hlen',hfl']
  have hsplit : cells'.toList.take ((pre.length + (suf.length + 1)) * 4) = (cells.toList.take ((pre.length + (suf.length + 1)) * 4)).take (pre.length * 4) ++ ([Value.int .i64 t'.op,.int .i64 t'.n,.string t'.s,u3] ++ ((cells.toList.take ((pre.length + (suf.length + 1)) * 4)).drop (pre.length * 4)).drop 4):=by
    apply List.ext_getElem?
    intro j
    have hL : ((cells.toList.take ((pre.length + (suf.length + 1)) * 4)).take (pre.length * 4)).length = pre.length * 4:=by
      simp only [List.length_take,Array.length_toList];omega
    rw [List.getElem?_append,hL]
    by_cases hj1 : j < pre.length * 4
    · rw [if_pos hj1,List.getElem?_take,if_pos (by omega),List.getElem?_take,if_pos hj1,List.getElem?_take,if_pos (by omega)]
      simpa using k3 j (.inl hj1)
    · rw [if_neg hj1,List.getElem?_append]
      by_cases hj2 : j < pre.length * 4 + 4
      · rw [if_pos (by first|omega|(simp;omega)),List.getElem?_take,if_pos (by omega)]
        obtain ⟨m,rfl⟩ : ∃ m,j = pre.length * 4 + m:=⟨j - pre.length * 4,by omega⟩
        rw [Nat.add_sub_cancel_left,Array.getElem?_toList]
        match m,hj2 with
        | 0,_ => simpa using k6
        | 1,_ => simpa using k7
        | 2,_ => simpa using k8
        | 3,_ => simpa using k9
        | m + 4,h => omega
      · rw [if_neg (by simp;omega),List.getElem?_drop,List.getElem?_drop]
        simp only [List.length_cons,List.length_nil]
        rw [show pre.length * 4 + (4 + (j - pre.length * 4 - (0 + 1 + 1 + 1 + 1))) = j by omega]
        rw [List.getElem?_take,List.getElem?_take]
        split
        · simpa using k3 j (.inr (by omega))
        · rfl
  rw [hsplit]
  have hmv : ∀ x,(x ∈ Fa ∨ x ∈ Fc) → w'.heap[x]? = w.heap[x]?:=by
    intro x hx
    refine k4 x (by simp;rcases hx with h|h <;> simp [h]) (fun e => hn.1 (by subst e;rcases hx with h|h <;> simp [h])) (fun hk => ?_)
    rcases hx with h|h
    · exact hn.2.2.2 x h x (.inl hk) rfl
    · exact hn.2.2.1.2.2 x hk x h rfl
  refine (g1.move (fun x hx => hmv x (.inl hx))).app (OwnL.app ?_ (g4.move (fun x hx => hmv x (.inr hx))))
  rw [Term.enc_eq]
  exact .int _ _ _ _ _ r1 r2 (.int _ _ _ _ _ r3 r4 (.str _ _ _ _ r5 k5))
theorem setCell_blk {w : World} {b k : Nat} {v : Value} {cells : Array Value} {ety : TypeId} (h : w.heap[b]? = some (.cells cells ety (0,0))) : (w.setCell ⟨b,k,none⟩ v).heap[b]? = some (.cells (cells.setIfInBounds k v) ety (0,0)):=by
  simp [World.setCell,Array.getElem?_modify,h]
theorem setCell_ne {w : World} {b k x : Nat} {v : Value} (h : x ≠ b) : (w.setCell ⟨b,k,none⟩ v).heap[x]? = w.heap[x]?:=Below.heap_setCell w ⟨b,k,none⟩ v x h
theorem setCell_lt {w : World} {p : Addr} {v : Value} : (w.setCell p v).heap.size = w.heap.size:=by simp [World.setCell]
theorem cell_of {w : World} {b k : Nat} {v : Value} {cells : Array Value} {ety : TypeId} (h : w.heap[b]? = some (.cells cells ety (0,0))) (hk : cells[k]? = some v) : w.cell? ⟨b,k,none⟩ = some v:=by simp [World.cell?,h,hk]
theorem frz_of {w : World} {b k : Nat} {cells : Array Value} {ety : TypeId} (h : w.heap[b]? = some (.cells cells ety (0,0))) : w.frozen? ⟨b,k,none⟩ = false:=by simp [World.frozen?,h]
theorem mark_mid {wr w1 : World} {b j : Nat} {cells : Array Value} {ety : TypeId} {x y u3 : Value} {Fk : List Nat} {t : Term} (hb : wr.heap[b]? = some (.cells cells ety (0,0))) (hc : j + 4 ≤ cells.size) (h3 : cells[j + 3]? = some u3)
    (hbk : b ∉ Fk) (hk : OwnL wr [u3] [.sl (encs t.kids)] Fk) (hlt : ∀ x,x ∈ Fk → x < wr.heap.size) (hf : Fr (fun _ => False) ((wr.setCell ⟨b,j,none⟩ x).setCell ⟨b,j + 1,none⟩ y) w1) :
    w1.heap[b]? = some (.cells ((cells.setIfInBounds j x).setIfInBounds (j + 1) y) ety (0,0)) ∧ (∃ v,w1.cell? ⟨b,j + 2,none⟩ = some v) ∧ w1.cell? ⟨b,j + 3,none⟩ = some u3 ∧ (∀ z,OwnL (w1.setCell ⟨b,j + 2,none⟩ z) [u3] [.sl (encs t.kids)] Fk) ∧
      wr.heap.size ≤ w1.heap.size ∧ (∀ b',b' ≠ b → b' < wr.heap.size → w1.heap[b']? = wr.heap[b']?):=by
  have hbl : b < wr.heap.size:=(Array.getElem?_eq_some_iff.1 hb).1
  have hs : ((wr.setCell ⟨b,j,none⟩ x).setCell ⟨b,j + 1,none⟩ y).heap.size = wr.heap.size:=by rw [setCell_lt,setCell_lt]
  have h1 : w1.heap[b]? = some (.cells ((cells.setIfInBounds j x).setIfInBounds (j + 1) y) ety (0,0)):=(hf.block b (by rw [hs];exact hbl) (fun h => h)).trans (setCell_blk (setCell_blk hb))
  have h2 : ∀ b',b' ≠ b → b' < wr.heap.size → w1.heap[b']? = wr.heap[b']?:=fun b' h h' => (hf.block b' (by rw [hs];exact h') (fun h => h)).trans ((setCell_ne h).trans (setCell_ne h))
  refine ⟨h1,⟨_,cell_of h1 (k:=j + 2) (v:=(cells[j + 2]'(by omega))) ?_⟩,cell_of h1 ?_,fun z => hk.move (fun b' hb' => ?_),by have:=hf.size;rw [hs] at this;exact this,h2⟩
  · rw [Array.getElem?_setIfInBounds,if_neg (by omega),Array.getElem?_setIfInBounds,if_neg (by omega),Array.getElem?_eq_getElem]
  · rw [Array.getElem?_setIfInBounds,if_neg (by omega),Array.getElem?_setIfInBounds,if_neg (by omega),h3]
  · have : b' ≠ b:=fun e => hbk (e ▸ hb')
    exact (setCell_ne this).trans (h2 b' this (hlt b' hb'))
theorem mark_end {w0 wr w1 w2 : World} {b j : Nat} {cells : Array Value} {ety : TypeId} {u u3 : Value} {F Fk : List Nat} {ts' : List Term → List Term} {t' : Term} (hb : wr.heap[b]? = some (.cells cells ety (0,0))) (hc : j + 4 ≤ cells.size) (h3 : cells[j + 3]? = some u3) (hbF : b ∈ F) (hsub : ∀ x,x ∈ Fk → x ∈ F)
    (hbk : b ∉ Fk) (hF : ∀ x,x ∈ F → x < wr.heap.size) (hfr : Fr (fun x => x ∈ F) w0 wr) (hF0 : ∀ x,x ∈ F → x < w0.heap.size)
    (hm1 : w1.heap[b]? = some (.cells ((cells.setIfInBounds j (.int .i64 t'.op)).setIfInBounds (j + 1) (.int .i64 t'.n)) ety (0,0)))
    (hm2 : wr.heap.size ≤ w1.heap.size) (hm3 : ∀ b',b' ≠ b → b' < wr.heap.size → w1.heap[b']? = wr.heap[b']?) (hos : w1.os = wr.os ∧ w1.tape = wr.tape ∧ w1.output = wr.output)
    (hf2 : Fr (fun x => x ∈ Fk) (w1.setCell ⟨b,j + 2,none⟩ (.string t'.s)) w2) (hk2 : OwnL w2 [u3] [.sl (encs t'.kids)] Fk)
    (HB : ∀ (w' : World) (cells' : Array Value) (t' : Term),w'.heap[b]? = some (.cells cells' ety (0,0)) → cells'.size = cells.size → (∀ j',j' < j ∨ j + 4 ≤ j' → cells'[j']? = cells[j']?) →
        (∀ x,x ∈ F → x ≠ b → x ∉ Fk → w'.heap[x]? = wr.heap[x]?) → OwnL w' [u3] [.sl (encs t'.kids)] Fk →
        cells'[j]? = some (.int .i64 t'.op) → cells'[j + 1]? = some (.int .i64 t'.n) → cells'[j + 2]? = some (.string t'.s) → cells'[j + 3]? = some u3 →
        IntKind.i64.min ≤ t'.op → t'.op ≤ IntKind.i64.max → IntKind.i64.min ≤ t'.n → t'.n ≤ IntKind.i64.max → t'.s.size ≤ 4611686018427387904 → OwnL w' [u] [.sl (encs (ts' [t']))] F)
    (r1 : IntKind.i64.min ≤ t'.op) (r2 : t'.op ≤ IntKind.i64.max) (r3 : IntKind.i64.min ≤ t'.n) (r4 : t'.n ≤ IntKind.i64.max) (r5 : t'.s.size ≤ 4611686018427387904) :
    Fr (fun x => x ∈ F) w0 w2 ∧ OwnL w2 [u] [.sl (encs (ts' [t']))] F:=by
  have hbl : b < wr.heap.size:=(Array.getElem?_eq_some_iff.1 hb).1
  have hs : (w1.setCell ⟨b,j + 2,none⟩ (.string t'.s)).heap.size = w1.heap.size:=setCell_lt
  have h1 : w2.heap[b]? = some (.cells (((cells.setIfInBounds j (.int .i64 t'.op)).setIfInBounds (j + 1) (.int .i64 t'.n)).setIfInBounds (j + 2) (.string t'.s)) ety (0,0)) :=
    (hf2.block b (by rw [hs];omega) hbk).trans (setCell_blk hm1)
  have h2 : ∀ x,x ≠ b → x ∉ Fk → x < wr.heap.size → w2.heap[x]? = wr.heap[x]?:=fun x hx hk hl => (hf2.block x (by rw [hs];omega) hk).trans ((setCell_ne hx).trans (hm3 x hx hl))
  refine ⟨⟨?_,?_,?_,?_,fun x hx hn => ?_⟩,HB w2 _ t' h1 (by simp) (fun j' hj => ?_) (fun x hx h h' => h2 x h h' (hF x hx)) hk2 ?_ ?_ ?_ ?_ r1 r2 r3 r4 r5⟩
  · exact (hf2.os.trans hos.1).trans hfr.os
  · exact (hf2.tape.trans hos.2.1).trans hfr.tape
  · exact (hf2.output.trans hos.2.2).trans hfr.output
  · have:=hf2.size;have:=hfr.size;rw [hs] at *;omega
  · have hxb : x ≠ b:=fun e => hn (e ▸ hbF)
    exact (h2 x hxb (fun hk => hn (hsub x hk)) (by have:=hfr.size;omega)).trans (hfr.block x hx hn)
  · rw [Array.getElem?_setIfInBounds,if_neg (by omega),Array.getElem?_setIfInBounds,if_neg (by omega),Array.getElem?_setIfInBounds,if_neg (by omega)]
  · rw [Array.getElem?_setIfInBounds,if_neg (by omega),Array.getElem?_setIfInBounds,if_neg (by omega),Array.getElem?_setIfInBounds,if_pos rfl,if_pos (by first|omega|(simp;omega))]
  · rw [Array.getElem?_setIfInBounds,if_neg (by omega),Array.getElem?_setIfInBounds,if_pos rfl,if_pos (by first|omega|(simp;omega))]
  · rw [Array.getElem?_setIfInBounds,if_pos rfl,if_pos (by first|omega|(simp;omega))]
  · rw [Array.getElem?_setIfInBounds,if_neg (by omega),Array.getElem?_setIfInBounds,if_neg (by omega),Array.getElem?_setIfInBounds,if_neg (by omega),h3]
end Go.Proofs.YtlddcimpdkcgeaaGreatDoor
