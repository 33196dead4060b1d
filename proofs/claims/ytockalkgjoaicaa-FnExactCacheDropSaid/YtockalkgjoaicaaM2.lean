/- Terms that are marked: what lies in memory. -/
import Derived.Test.YtockalkgjoaicaaM1
set_option linter.unusedVariables false
set_option linter.unusedSimpArgs false
set_option maxHeartbeats 2000000
namespace Go.Proofs.Ytockalkgjoaicaa
open Go.RowKit Sym

theorem own_sl_inv {w : World} {u : Value} {xs : List (List D)} {F : List Nat} (h : OwnL w [u] [.sl xs] F) (hp : 0 < xs.length) :
    ∃ b c cells ety e F1,u = .slice (some ⟨b,0,none⟩) xs.length c ∧ F = b :: F1 ∧ w.heap[b]? = some (.cells cells ety (0,0)) ∧ (∀ l,l ∈ xs → l.length = e) ∧ xs.length ≤ c ∧ c ≤ maxLen ∧ cells.size = c * e ∧ xs.length ≤ 140737488355328 ∧ OwnL w (cells.toList.take (xs.length * e)) xs.flatten F1:=by
  generalize hd : [D.sl xs] = dd at h
  generalize hv : [u] = vv at h
  cases h with
  | nil => cases hd
  | int => simp at hd
  | bool => simp at hd
  | str => simp at hd
  | none a c vs ds F h =>
    simp only [List.cons.injEq,D.sl.injEq] at hd
    obtain ⟨rfl,_⟩:=hd
    simp at hp
  | sl b c cells ety e xs' vs ds F1 F2 h0 h1 h2 h3 h4 h5 h6 h7 h8 =>
    simp only [List.cons.injEq,D.sl.injEq] at hd hv
    obtain ⟨rfl,rfl⟩:=hd
    obtain ⟨rfl,rfl⟩:=hv
    cases h8
    exact ⟨b,c,cells,ety,e,F1,rfl,by simp,h1,h2,h3,h4,h5,h6,h7⟩

theorem own_int_inv {w : World} {vs : List Value} {k : IntKind} {n : Int} {ds : List D} {F : List Nat} (h : OwnL w vs (.int k n :: ds) F) : ∃ vs',vs = .int k n :: vs' ∧ OwnL w vs' ds F:=by
  generalize hd : (D.int k n :: ds) = dd at h
  cases h with
  | int k' n' vs ds' F h1 h2 h =>
    simp only [List.cons.injEq,D.int.injEq] at hd
    obtain ⟨⟨rfl,rfl⟩,rfl⟩:=hd
    exact ⟨vs,rfl,h⟩
  | nil => cases hd
  | bool => simp at hd
  | str => simp at hd
  | none => simp at hd
  | sl => simp at hd
theorem own_str_inv {w : World} {vs : List Value} {x : ByteArray} {ds : List D} {F : List Nat} (h : OwnL w vs (.str x :: ds) F) : ∃ vs',vs = .string x :: vs' ∧ OwnL w vs' ds F:=by
  generalize hd : (D.str x :: ds) = dd at h
  cases h with
  | str s vs ds' F h1 h =>
    simp only [List.cons.injEq,D.str.injEq] at hd
    obtain ⟨rfl,rfl⟩:=hd
    exact ⟨vs,rfl,h⟩
  | nil => cases hd
  | bool => simp at hd
  | int => simp at hd
  | none => simp at hd
  | sl => simp at hd
theorem setCell_blk {w : World} {b k : Nat} {v : Value} {cells : Array Value} {ety : TypeId} (h : w.heap[b]? = some (.cells cells ety (0,0))) : (w.setCell ⟨b,k,none⟩ v).heap[b]? = some (.cells (cells.setIfInBounds k v) ety (0,0)):=by
  simp [World.setCell,Array.getElem?_modify,h]
theorem setCell_ne {w : World} {b k x : Nat} {v : Value} (h : x ≠ b) : (w.setCell ⟨b,k,none⟩ v).heap[x]? = w.heap[x]?:=Below.heap_setCell w ⟨b,k,none⟩ v x h
theorem setCell_lt {w : World} {p : Addr} {v : Value} : (w.setCell p v).heap.size = w.heap.size:=by simp [World.setCell]
theorem cell_of {w : World} {b k : Nat} {v : Value} {cells : Array Value} {ety : TypeId} (h : w.heap[b]? = some (.cells cells ety (0,0))) (hk : cells[k]? = some v) : w.cell? ⟨b,k,none⟩ = some v:=by simp [World.cell?,h,hk]
theorem frz_of {w : World} {b k : Nat} {cells : Array Value} {ety : TypeId} (h : w.heap[b]? = some (.cells cells ety (0,0))) : w.frozen? ⟨b,k,none⟩ = false:=by simp [World.frozen?,h]

end Go.Proofs.Ytockalkgjoaicaa
