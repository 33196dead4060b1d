/- Policies that are marked. -/
import Derived.Test.YtockalkgjoaicaaD16
import Derived.WalkKit
import Derived.ProofKit
set_option linter.unusedVariables false
set_option linter.unusedSimpArgs false
set_option maxHeartbeats 2000000
namespace Go.Proofs.Ytockalkgjoaicaa
open Go Go.RowKit Sym
theorem own_nil_inv {w : World} {vs : List Value} {F : List Nat} (h : OwnL w vs [] F) : vs = [] ∧ F = []:=by
  generalize hd : ([] : List D) = dd at h
  cases h with
  | nil => exact ⟨rfl,rfl⟩
  | _ => cases hd
theorem own4P {w : World} {vs : List Value} {p : Policy} {F : List Nat} (h : OwnL w vs p.enc F) : ∃ u2,vs = [.string p.dom,.int .i64 p.mode,u2,.int .i64 p.til] ∧ OwnL w [u2] [.sl (encStr p.mx)] F:=by
  rw [Policy.enc_eq] at h
  obtain ⟨v1,rfl,h1⟩:=own_str_inv h
  obtain ⟨v2,rfl,h2⟩:=own_int_inv h1
  have hl:=h2.length
  obtain ⟨F1,F2,rfl,g1,g2⟩:=h2.split 1
  match v2,hl with
  | [a,b],_ =>
    obtain ⟨v3,h3,g3⟩:=own_int_inv g2
    simp only [List.drop_succ_cons,List.drop_zero,List.cons.injEq] at h3
    obtain ⟨rfl,rfl⟩:=h3
    obtain ⟨_,rfl⟩:=own_nil_inv g3
    exact ⟨a,rfl,by simpa using g1⟩
theorem encPs_app (xs ys : List Policy) : encPs (xs ++ ys) = encPs xs ++ encPs ys:=by simp [encPs]
theorem encPs_flat (pre : List Policy) : (encPs pre).flatten.length = pre.length * 4:=by rw [flat_len (encPs_each pre),encPs_length]
theorem encP_length (p : Policy) : p.enc.length = 4:=rfl
theorem own4P_mk {w : World} {p : Policy} {u2 : Value} {F : List Nat} (h : OwnL w [u2] [.sl (encStr p.mx)] F) (r0 : p.dom.size ≤ 4611686018427387904) (r1 : IntKind.i64.min ≤ p.mode) (r2 : p.mode ≤ IntKind.i64.max) (r3 : IntKind.i64.min ≤ p.til) (r4 : p.til ≤ IntKind.i64.max) :
    OwnL w [.string p.dom,.int .i64 p.mode,u2,.int .i64 p.til] p.enc F:=by
  rw [Policy.enc_eq]
  refine .str _ _ _ _ r0 (.int _ _ _ _ _ r1 r2 ?_)
  have:=h.app (OwnL.int (w:=w) .i64 p.til [] [] [] r3 r4 .nil)
  simpa using this
/-- One element: where it lies, and what becomes of the whole when it is turned. -/
theorem own_elemP {w : World} {u : Value} {pre suf : List Policy} {t : Policy} {F : List Nat} (h : OwnL w [u] [.sl (encPs (pre ++ t :: suf))] F) (hn : F.Nodup) :
    ∃ b c cells ety u2 Fk,u = .slice (some ⟨b,0,none⟩) (pre.length + (suf.length + 1)) c ∧ w.heap[b]? = some (.cells cells ety (0,0)) ∧ b ∈ F ∧ b ∉ Fk ∧ (∀ x,x ∈ Fk → x ∈ F) ∧ Fk.Nodup ∧ OwnL w [u2] [.sl (encStr t.mx)] Fk ∧
      pre.length * 4 + 4 ≤ cells.size ∧ cells[pre.length * 4 + 2]? = some u2 ∧ pre.length + (suf.length + 1) ≤ 140737488355328 ∧
      ∀ (w' : World) (cells' : Array Value) (t' : Policy),w'.heap[b]? = some (.cells cells' ety (0,0)) → cells'.size = cells.size → (∀ j,j < pre.length * 4 ∨ pre.length * 4 + 4 ≤ j → cells'[j]? = cells[j]?) →
        (∀ x,x ∈ F → x ≠ b → x ∉ Fk → w'.heap[x]? = w.heap[x]?) → OwnL w' [u2] [.sl (encStr t'.mx)] Fk →
        cells'[pre.length * 4]? = some (.string t'.dom) → cells'[pre.length * 4 + 1]? = some (.int .i64 t'.mode) → cells'[pre.length * 4 + 2]? = some u2 → cells'[pre.length * 4 + 3]? = some (.int .i64 t'.til) →
        t'.dom.size ≤ 4611686018427387904 → IntKind.i64.min ≤ t'.mode → t'.mode ≤ IntKind.i64.max → IntKind.i64.min ≤ t'.til → t'.til ≤ IntKind.i64.max → OwnL w' [u] [.sl (encPs (pre ++ t' :: suf))] F:=by
  have hlen : (encPs (pre ++ t :: suf)).length = pre.length + (suf.length + 1):=by simp [encPs_length]
  obtain ⟨b,c,cells,ety,e,F1,rfl,rfl,h1,h2,h3,h4,h5,h6,h7⟩:=own_sl_inv h (by rw [hlen];omega)
  have he : e = 4:=by
    have:=h2 t.enc (by rw [encPs_app];simp [encPs])
    rw [encP_length] at this;exact this.symm
  subst he
  rw [hlen] at h3 h6 h7 ⊢
  have hcs : pre.length * 4 + 4 ≤ cells.size:=by rw [h5];have:=Nat.mul_le_mul_right 4 h3;omega
  obtain ⟨Fa,Fb,rfl,g1,g2⟩:=h7.split (pre.length * 4)
  obtain ⟨Fk,Fc,rfl,g3,g4⟩:=g2.split 4
  have hfl : (encPs (pre ++ t :: suf)).flatten = (encPs pre).flatten ++ (t.enc ++ (encPs suf).flatten):=by rw [encPs_app,List.flatten_append];simp [encPs]
  have e1 : (encPs (pre ++ t :: suf)).flatten.take (pre.length * 4) = (encPs pre).flatten:=by rw [hfl,List.take_left' (encPs_flat pre)]
  have e2 : (encPs (pre ++ t :: suf)).flatten.drop (pre.length * 4) = t.enc ++ (encPs suf).flatten:=by rw [hfl,List.drop_left' (encPs_flat pre)]
  rw [e1] at g1
  rw [e2] at g3 g4
  rw [List.take_left' (encP_length t)] at g3
  rw [List.drop_left' (encP_length t)] at g4
  obtain ⟨u3,hvs,hk⟩:=own4P g3
  have hat : ∀ j,j < 4 → cells[pre.length * 4 + j]? = [Value.string t.dom,.int .i64 t.mode,u3,.int .i64 t.til][j]?:=by
    intro j hj
    rw [← hvs,List.getElem?_take,if_pos hj,List.getElem?_drop,List.getElem?_take,if_pos (by omega)]
    simp
  simp only [List.nodup_cons,List.nodup_append,List.mem_append] at hn
  refine ⟨b,c,cells,ety,u3,Fk,rfl,h1,by simp,fun hb => hn.1 (.inr (.inl hb)),fun x hx => by simp [hx],hn.2.2.1.1,hk,hcs,hat 2 (by omega),h6,?_⟩
  intro w' cells' t' k1 k2 k3 k4 k5 k6 k7 k8 k9 r0 r1 r2 r3 r4
  have hlen' : (encPs (pre ++ t' :: suf)).length = pre.length + (suf.length + 1):=by simp [encPs_length]
  have hfl' : (encPs (pre ++ t' :: suf)).flatten = (encPs pre).flatten ++ (t'.enc ++ (encPs suf).flatten):=by rw [encPs_app,List.flatten_append];simp [encPs]
  have:=OwnL.sl b c cells' ety 4 (encPs (pre ++ t' :: suf)) [] [] (Fa ++ (Fk ++ Fc)) [] (by rw [hlen'];omega) k1 (encPs_each _) (by rw [hlen'];exact h3) h4 (by rw [k2,h5]) (by rw [hlen'];exact h6) ?_ .nil
  · rw [hlen'] at this;simpa using this
  rw [hlen',hfl']
  have hsplit : cells'.toList.take ((pre.length + (suf.length + 1)) * 4) = (cells.toList.take ((pre.length + (suf.length + 1)) * 4)).take (pre.length * 4) ++ ([Value.string t'.dom,.int .i64 t'.mode,u3,.int .i64 t'.til] ++ ((cells.toList.take ((pre.length + (suf.length + 1)) * 4)).drop (pre.length * 4)).drop 4):=by
    apply List.ext_getElem?
    intro j
    have hL : ((cells.toList.take ((pre.length + (suf.length + 1)) * 4)).take (pre.length * 4)).length = pre.length * 4:=by
      simp only [List.length_take,Array.length_toList];omega
    rw [List.getElem?_append,hL]
    by_cases hj1 : j < pre.length * 4
    · rw [if_pos hj1,List.getElem?_take,if_pos (by omega),List.getElem?_take,if_pos hj1,List.getElem?_take,if_pos (by omega)]
      simpa using k3 j (.inl hj1)
    · rw [if_neg hj1,List.getElem?_append]
      by_cases hj2 : j < pre.length * 4 + 4
      · rw [if_pos (by first|omega|(simp;omega)),List.getElem?_take,if_pos (by omega)]
        obtain ⟨m,rfl⟩ : ∃ m,j = pre.length * 4 + m:=⟨j - pre.length * 4,by omega⟩
        rw [Nat.add_sub_cancel_left,Array.getElem?_toList]
        match m,hj2 with
        | 0,_ => simpa using k6
        | 1,_ => simpa using k7
        | 2,_ => simpa using k8
        | 3,_ => simpa using k9
        | m + 4,h => omega
      · rw [if_neg (by simp;omega),List.getElem?_drop,List.getElem?_drop]
        simp only [List.length_cons,List.length_nil]
        rw [show pre.length * 4 + (4 + (j - pre.length * 4 - (0 + 1 + 1 + 1 + 1))) = j by omega]
        rw [List.getElem?_take,List.getElem?_take]
        split
        · simpa using k3 j (.inr (by omega))
        · rfl
  rw [hsplit]
  have hmv : ∀ x,(x ∈ Fa ∨ x ∈ Fc) → w'.heap[x]? = w.heap[x]?:=by
    intro x hx
    refine k4 x (by simp;rcases hx with h|h <;> simp [h]) (fun e => hn.1 (by subst e;rcases hx with h|h <;> simp [h])) (fun hk => ?_)
    rcases hx with h|h
    · exact hn.2.2.2 x h x (.inl hk) rfl
    · exact hn.2.2.1.2.2 x hk x h rfl
  exact (g1.move (fun x hx => hmv x (.inl hx))).app (OwnL.app (own4P_mk k5 r0 r1 r2 r3 r4) (g4.move (fun x hx => hmv x (.inr hx))))

/-- Behind the first text. -/
theorem mark_midP {wr w1 : World} {b j : Nat} {cells : Array Value} {ety : TypeId} {u2 : Value} {Fk : List Nat} {ss : List ByteArray} (hb : wr.heap[b]? = some (.cells cells ety (0,0))) (hc : j + 4 ≤ cells.size) (h2 : cells[j + 2]? = some u2)
    (hbk : b ∉ Fk) (hk : OwnL wr [u2] [.sl (encStr ss)] Fk) (hlt : ∀ x,x ∈ Fk → x < wr.heap.size) (hf : Fr (fun _ => False) wr w1) :
    w1.heap[b]? = some (.cells cells ety (0,0)) ∧ (∃ v,w1.cell? ⟨b,j,none⟩ = some v) ∧ (∃ v,w1.cell? ⟨b,j + 1,none⟩ = some v) ∧ w1.cell? ⟨b,j + 2,none⟩ = some u2 ∧
      (∀ x y,OwnL ((w1.setCell ⟨b,j,none⟩ x).setCell ⟨b,j + 1,none⟩ y) [u2] [.sl (encStr ss)] Fk) ∧ wr.heap.size ≤ w1.heap.size ∧ (∀ b',b' ≠ b → b' < wr.heap.size → w1.heap[b']? = wr.heap[b']?):=by
  have hbl : b < wr.heap.size:=(Array.getElem?_eq_some_iff.1 hb).1
  have h1 : w1.heap[b]? = some (.cells cells ety (0,0)):=(hf.block b hbl (fun h => h)).trans hb
  have h3 : ∀ b',b' ≠ b → b' < wr.heap.size → w1.heap[b']? = wr.heap[b']?:=fun b' h h' => hf.block b' h' (fun h => h)
  refine ⟨h1,⟨_,cell_of h1 (Array.getElem?_eq_getElem (by omega))⟩,⟨_,cell_of h1 (Array.getElem?_eq_getElem (by omega))⟩,cell_of h1 h2,fun x y => hk.move (fun b' hb' => ?_),hf.size,h3⟩
  have : b' ≠ b:=fun e => hbk (e ▸ hb')
  exact (setCell_ne this).trans ((setCell_ne this).trans (h3 b' this (hlt b' hb')))
/-- Behind the texts in a row. -/
theorem mark_mid2P {w1 w2 : World} {b j : Nat} {cells : Array Value} {ety : TypeId} {x y : Value} {Fk : List Nat} (hb : w1.heap[b]? = some (.cells cells ety (0,0))) (hc : j + 4 ≤ cells.size)
    (hbk : b ∉ Fk) (hf : Fr (fun x => x ∈ Fk) ((w1.setCell ⟨b,j,none⟩ x).setCell ⟨b,j + 1,none⟩ y) w2) :
    w2.heap[b]? = some (.cells ((cells.setIfInBounds j x).setIfInBounds (j + 1) y) ety (0,0)) ∧ (∃ v,w2.cell? ⟨b,j + 3,none⟩ = some v):=by
  have hbl : b < w1.heap.size:=(Array.getElem?_eq_some_iff.1 hb).1
  have h1 : w2.heap[b]? = some (.cells ((cells.setIfInBounds j x).setIfInBounds (j + 1) y) ety (0,0)):=(hf.block b (by rw [setCell_lt,setCell_lt];exact hbl) hbk).trans (setCell_blk (setCell_blk hb))
  exact ⟨h1,_,cell_of h1 (Array.getElem?_eq_getElem (by simp;omega))⟩
/-- What a round leaves. -/
theorem mark_endP {w0 wr w1 w2 : World} {b j : Nat} {cells : Array Value} {ety : TypeId} {u u2 : Value} {F Fk : List Nat} {ts' : List Policy → List Policy} {t' : Policy} (hb : wr.heap[b]? = some (.cells cells ety (0,0))) (hc : j + 4 ≤ cells.size) (h3 : cells[j + 2]? = some u2) (hbF : b ∈ F) (hsub : ∀ x,x ∈ Fk → x ∈ F)
    (hbk : b ∉ Fk) (hF : ∀ x,x ∈ F → x < wr.heap.size) (hfr : Fr (fun x => x ∈ F) w0 wr) (hF0 : ∀ x,x ∈ F → x < w0.heap.size)
    (hm1 : w1.heap[b]? = some (.cells cells ety (0,0))) (hm2 : wr.heap.size ≤ w1.heap.size) (hm3 : ∀ b',b' ≠ b → b' < wr.heap.size → w1.heap[b']? = wr.heap[b']?) (hos : w1.os = wr.os ∧ w1.tape = wr.tape ∧ w1.output = wr.output)
    (hf2 : Fr (fun x => x ∈ Fk) ((w1.setCell ⟨b,j,none⟩ (.string t'.dom)).setCell ⟨b,j + 1,none⟩ (.int .i64 t'.mode)) w2) (hk2 : OwnL w2 [u2] [.sl (encStr t'.mx)] Fk)
    (hm4 : w2.heap[b]? = some (.cells ((cells.setIfInBounds j (.string t'.dom)).setIfInBounds (j + 1) (.int .i64 t'.mode)) ety (0,0)))
    (HB : ∀ (w' : World) (cells' : Array Value) (t' : Policy),w'.heap[b]? = some (.cells cells' ety (0,0)) → cells'.size = cells.size → (∀ j',j' < j ∨ j + 4 ≤ j' → cells'[j']? = cells[j']?) →
        (∀ x,x ∈ F → x ≠ b → x ∉ Fk → w'.heap[x]? = wr.heap[x]?) → OwnL w' [u2] [.sl (encStr t'.mx)] Fk →
        cells'[j]? = some (.string t'.dom) → cells'[j + 1]? = some (.int .i64 t'.mode) → cells'[j + 2]? = some u2 → cells'[j + 3]? = some (.int .i64 t'.til) →
        t'.dom.size ≤ 4611686018427387904 → IntKind.i64.min ≤ t'.mode → t'.mode ≤ IntKind.i64.max → IntKind.i64.min ≤ t'.til → t'.til ≤ IntKind.i64.max → OwnL w' [u] [.sl (encPs (ts' [t']))] F)
    (r0 : t'.dom.size ≤ 4611686018427387904) (r1 : IntKind.i64.min ≤ t'.mode) (r2 : t'.mode ≤ IntKind.i64.max) (r3 : IntKind.i64.min ≤ t'.til) (r4 : t'.til ≤ IntKind.i64.max) :
    Fr (fun x => x ∈ F) w0 (w2.setCell ⟨b,j + 3,none⟩ (.int .i64 t'.til)) ∧ OwnL (w2.setCell ⟨b,j + 3,none⟩ (.int .i64 t'.til)) [u] [.sl (encPs (ts' [t']))] F:=by
  have hbl : b < wr.heap.size:=(Array.getElem?_eq_some_iff.1 hb).1
  have hs : ((w1.setCell ⟨b,j,none⟩ (.string t'.dom)).setCell ⟨b,j + 1,none⟩ (.int .i64 t'.mode)).heap.size = w1.heap.size:=by rw [setCell_lt,setCell_lt]
  have h1:=setCell_blk (k:=j + 3) (v:=Value.int .i64 t'.til) hm4
  have h2 : ∀ x,x ≠ b → x ∉ Fk → x < wr.heap.size → (w2.setCell ⟨b,j + 3,none⟩ (.int .i64 t'.til)).heap[x]? = wr.heap[x]?:=fun x hx hk hl =>
    (setCell_ne hx).trans ((hf2.block x (by rw [hs];omega) hk).trans ((setCell_ne hx).trans ((setCell_ne hx).trans (hm3 x hx hl))))
  refine ⟨⟨?_,?_,?_,?_,fun x hx hn => ?_⟩,HB _ _ t' h1 (by simp) (fun j' hj => ?_) (fun x hx h h' => h2 x h h' (hF x hx)) (hk2.move fun x hx => setCell_ne (fun e => hbk (e ▸ hx))) ?_ ?_ ?_ ?_ r0 r1 r2 r3 r4⟩
  · exact (hf2.os.trans hos.1).trans hfr.os
  · exact (hf2.tape.trans hos.2.1).trans hfr.tape
  · exact (hf2.output.trans hos.2.2).trans hfr.output
  · have:=hf2.size;have:=hfr.size;rw [setCell_lt];rw [hs] at *;omega
  · have hxb : x ≠ b:=fun e => hn (e ▸ hbF)
    exact (h2 x hxb (fun hk => hn (hsub x hk)) (by have:=hfr.size;omega)).trans (hfr.block x hx hn)
  · rw [Array.getElem?_setIfInBounds,if_neg (by omega),Array.getElem?_setIfInBounds,if_neg (by omega),Array.getElem?_setIfInBounds,if_neg (by omega)]
  · rw [Array.getElem?_setIfInBounds,if_neg (by omega),Array.getElem?_setIfInBounds,if_neg (by omega),Array.getElem?_setIfInBounds,if_pos rfl,if_pos (by first|omega|(simp;omega))]
  · rw [Array.getElem?_setIfInBounds,if_neg (by omega),Array.getElem?_setIfInBounds,if_pos rfl,if_pos (by first|omega|(simp;omega))]
  · rw [Array.getElem?_setIfInBounds,if_neg (by omega),Array.getElem?_setIfInBounds,if_neg (by omega),Array.getElem?_setIfInBounds,if_neg (by omega),h3]
  · rw [Array.getElem?_setIfInBounds,if_pos rfl,if_pos (by first|omega|(simp;omega))]
def MkP (ps : List Policy) (k : Int) : Prop:=∀ (w : World) (u : Value) (F : List Nat),Laid w → (∀ b,b ∈ F → lowB ≤ b) → (∀ b,b ∈ F → b < w.heap.size) → F.Nodup → OwnL w [u] [.sl (encPs ps)] F →
  Calls Try.prog 9 #[u,.int .i64 k] w fun e w' => e = .returned (.int .i64 (k + kPs ps)) ∧ Fr (fun b => b ∈ F) w w' ∧ OwnL w' [u] [.sl (encPs (markPs k ps))] F
set_option maxRecDepth 100000 in
theorem markP_any (ps : List Policy) (k : Int) (h0 : 0 ≤ k) (h1 : k + kPs ps ≤ 4611686018427387904) : MkP ps k:=by
  intro w u F hL hlo hF hN hO
  obtain ⟨ad,cc,hu⟩ : ∃ ad cc,u = .slice ad ps.length cc:=by
    have hr:=(hO.rep (ok:=fun _ => True) (fun _ _ => trivial)).1
    obtain ⟨a,c,h,_⟩:=hr.cells
    rw [encPs_length] at h
    exact ⟨a,c,h⟩
  have hlen : ps.length ≤ 140737488355328:=by
    have hr:=(hO.rep (ok:=fun _ => True) (fun _ _ => trivial)).1
    have:=hr.ok
    simp only [D.Ok,encPs_length] at this
    exact this.1
  subst hu
  go_enter Try.func9,Try.ntmps9
  go_wp2
  go_loopw [1,5] (fun k' i wr => ∃ n : Nat,n ≤ ps.length ∧ i = .int .i64 n ∧ k' = .int .i64 (k + kPs (ps.take n)) ∧ Fr (fun b => b ∈ F) w wr ∧ OwnL wr [.slice ad ps.length cc] [.sl (encPs ((markPs k ps).take n ++ ps.drop n))] F) (fun _ i _ => ps.length - (intOf i).toNat)
  case atStart => exact ⟨0,Nat.zero_le _,rfl,by simp [kPs],Fr.refl _ _,by simpa using hO⟩
  case round =>
    obtain ⟨n,hn,rfl,rfl,hfr,hown⟩:=hrel
    by_cases hlt : n < ps.length
    · have hd : ps.drop n = ps[n] :: ps.drop (n + 1):=List.drop_eq_getElem_cons hlt
      rw [hd] at hown
      have hpl : ((markPs k ps).take n).length = n:=by simp [markPs_length];omega
      obtain ⟨b,c,cells,ety,u2,Fk,hv,hb1,hbF,hbk,hsub,hkn,hko,hcs,hc2,hsz,hback⟩:=own_elemP hown hN
      rw [hpl] at hv hcs hc2 hsz hback
      obtain ⟨rfl,hl,rfl⟩ : ad = some ⟨b,0,none⟩ ∧ ps.length = n + ((ps.drop (n + 1)).length + 1) ∧ cc = c:=by simpa using hv
      clear hv hd hown
      obtain ⟨hst,hle⟩:=kPs_step ps n hlt
      obtain ⟨m,hm⟩ : ∃ m,k + (kPs (ps.take n) : Int) = m:=⟨_,rfl⟩
      rw [hm]
      obtain ⟨l,hll⟩ : ∃ l,ps[n].mx.length = l:=⟨_,rfl⟩
      have hm0 : 0 ≤ m ∧ m + 3 + l ≤ 4611686018427387904:=by unfold kP at hle;omega
      have HB : Hid (∀ (w' : World) (cells' : Array Value) (t' : Policy),w'.heap[b]? = some (.cells cells' ety (0,0)) → cells'.size = cells.size → (∀ j,j < n * 4 ∨ n * 4 + 4 ≤ j → cells'[j]? = cells[j]?) →
        (∀ x,x ∈ F → x ≠ b → x ∉ Fk → w'.heap[x]? = wr.heap[x]?) → OwnL w' [u2] [.sl (encStr t'.mx)] Fk →
        cells'[n * 4]? = some (.string t'.dom) → cells'[n * 4 + 1]? = some (.int .i64 t'.mode) → cells'[n * 4 + 2]? = some u2 → cells'[n * 4 + 3]? = some (.int .i64 t'.til) →
        t'.dom.size ≤ 4611686018427387904 → IntKind.i64.min ≤ t'.mode → t'.mode ≤ IntKind.i64.max → IntKind.i64.min ≤ t'.til → t'.til ≤ IntKind.i64.max → OwnL w' [.slice (some ⟨b,0,none⟩) ps.length cc] [.sl (encPs ((markPs k ps).take n ++ t' :: ps.drop (n + 1)))] F):=by
        exact hback
      have HM : Hid (k + ((kPs (ps.take (n + 1)) : Nat) : Int) = m + 1 + 1 + l + 1):=by
        show _ = _
        rw [hst];unfold kP;omega
      have HT : Hid ((markPs k ps).take (n + 1) = (markPs k ps).take n ++ [Policy.mk (mtext m) (m + 1) (markSs (m + 1 + 1) l) (m + 1 + 1 + l)]):=by
        show _ = _
        rw [List.take_add_one,markPs_get k ps n hlt,hm]
        unfold markP
        rw [hll,show m + 1 + 1 = m + 2 by omega]
        rfl
      clear hback hm hl hpl hst hle
      have hFr : ∀ x,x ∈ F → x < wr.heap.size:=fun x hx => Nat.lt_of_lt_of_le (hF x hx) hfr.size
      have HI : Hid (MkS l (m + 1 + 1)):=markS_any l (m + 1 + 1) (by omega) (by omega)
      have HLr : Hid (Laid wr):=hL.fr hfr hlo
      have Hlb : Hid (lowB ≤ b):=hlo b hbF
      have Hlo : Hid (∀ b,b ∈ F → lowB ≤ b):=hlo
      have HK : Hid (OwnL wr [u2] [.sl (encStr ps[n].mx)] Fk):=hko
      have Hll : Hid (ps[n].mx.length = l):=hll
      clear hL hlo hko hll
      go_wp2_with (first
        | (go_at_call 18;refine (markText_any m (by omega) (by omega) _ (by repeat (first|exact HLr.out|refine Laid.set ?_ Hlb.out|refine Laid.drew ?_))).mono ?_;rintro e w1 ⟨rfl,hsz1,hfr1⟩;have HL1 : Hid (Laid w1):=Laid.fr (by repeat (first|exact HLr.out|refine Laid.set ?_ Hlb.out|refine Laid.drew ?_)) hfr1 (fun _ h => h.elim);have HMid:=mark_midP hb1 hcs hc2 hbk HK.out (fun x hx => hFr x (hsub x hx)) hfr1;obtain ⟨hq1,⟨v0',hq2⟩,⟨v1',hq3⟩,hq4,hq5,hq6,hq7⟩:=HMid;have hq8 : ∀ k,w1.frozen? ⟨b,k,none⟩ = false:=fun k => frz_of hq1)
        | (go_at_call 19;refine (HI.out _ u2 Fk _ Hll.out (by repeat (first|exact HL1.out|refine Laid.set ?_ Hlb.out|refine Laid.drew ?_)) (fun x hx => Hlo.out x (hsub x hx)) (fun x hx => by have:=hFr x (hsub x hx);rw [setCell_lt,setCell_lt];omega) (hq5 _ _)).mono ?_;rintro e w2 ⟨rfl,hfr2,hko2⟩;have HMid2:=mark_mid2P hq1 hcs hbk hfr2;obtain ⟨hp1,⟨v3',hp2⟩⟩:=HMid2;have hp3 : ∀ k,w2.frozen? ⟨b,k,none⟩ = false:=fun k => frz_of hp1)
        | go_in)
      go_roundw
      case rel =>
        have E:=mark_endP (t':=.mk (mtext m) (m + 1) (markSs (m + 1 + 1) l) (m + 1 + 1 + l)) (ts':=fun l => (markPs k ps).take n ++ (l ++ ps.drop (n + 1))) hb1 hcs hc2 hbF hsub hbk hFr hfr hF hq1 hq6 hq7 ⟨hfr1.os,hfr1.tape,hfr1.output⟩ hfr2 hko2 hp1 HB.out hsz1 (by rw [i64_min];simp only;omega) (by rw [i64_max];simp only;omega) (by rw [i64_min];simp only;omega) (by rw [i64_max];simp only;omega)
        refine ⟨n + 1,by omega,by go_num,?_,E.1,?_⟩
        · have:=HM.out
          congr 1
          omega
        · rw [HT.out,List.append_assoc]
          exact E.2
      case measure => simp [intOf];omega
    · have : n = ps.length:=by omega
      subst this
      go_wp2
      go_ret
      rw [List.take_length,show (markPs k ps).take ps.length = markPs k ps by rw [← markPs_length k ps,List.take_length],List.drop_length,List.append_nil] at *
      exact ⟨rfl,hfr,hown⟩
theorem ctf_markPolicyS : CtF Try.prog 9:=⟨_,Try.func9,rfl,rfl⟩
theorem markPolicyS_m (ps : List Policy) (k : Int) (h0 : 0 ≤ k) (h1 : k + kPs ps ≤ 4611686018427387904) : CtM Try.prog 9 [.otr 0,.d false (.int .i64 k)] (encPs ps) (encPs (markPs k ps)) (.d true (.int .i64 (k + kPs ps))):=by
  refine ⟨ctf_markPolicyS,rfl,fun w ok vs u F hL hlo hok hF hO hN hv => ?_⟩
  match vs,hv with
  | [v1,v2],hv =>
    simp only [VSimL,VSim,and_true] at hv
    obtain ⟨⟨⟨G,hg⟩,_⟩,h2⟩:=hv
    simp only [List.getElem?_cons_zero,Option.some.injEq] at hg
    obtain ⟨rfl,rfl⟩:=tv_inj hg
    have h2:=(vint (lo:=0) (β:=[]) (o:=false) h2).1
    subst h2
    refine (markP_any ps k h0 h1 w _ _ hL hlo hF hN hO).mono ?_
    rintro e w' ⟨rfl,hf,ho⟩
    exact ⟨_,rfl,hf,ho,vsim_int _ _ (by rw [i64_min];omega) (by rw [i64_max];omega)⟩
  | [],hv => simp [VSimL] at hv
  | [_],hv => simp [VSimL] at hv
  | _ :: _ :: _ :: _,hv => simp [VSimL] at hv
end Go.Proofs.Ytockalkgjoaicaa
