/- What is struck out of a row of policies: the walk. -/
import Derived.Test.YtockalkgjoaicaaD18
import Derived.WalkKit
import Derived.ProofKit
import Derived.Lib.Walk
import Derived.Laws.Cells
import Derived.Lib.SliceRun
import Derived.Deep.LoopGhost
import Derived.Shelf.Abstract
set_option linter.unusedVariables false
set_option linter.unusedSimpArgs false
set_option maxHeartbeats 4000000
namespace Go.Proofs.Ytockalkgjoaicaa
open Go Go.RowKit Sym
/-- An element's cells. -/
def pvs (g : Policy × Value) : List Value:=[.string g.1.dom,.int .i64 g.1.mode,g.2,.int .i64 g.1.til]
def gcells (gs : List (Policy × Value)) : List Value:=(gs.map pvs).flatten
theorem pvs_each (gs : List (Policy × Value)) : ∀ l,l ∈ gs.map pvs → l.length = 4:=by
  intro l hl
  obtain ⟨g,_,rfl⟩:=List.mem_map.1 hl
  rfl
theorem gcells_len (gs : List (Policy × Value)) : (gcells gs).length = gs.length * 4:=by unfold gcells;rw [flat_len (pvs_each gs),List.length_map]
theorem gcells_get (gs : List (Policy × Value)) (j i : Nat) (hj : j < gs.length) (hi : i < 4) : (gcells gs)[j * 4 + i]? = (pvs gs[j])[i]?:=flat_get (pvs_each gs) j i _ (by simp [hj]) hi
theorem gcells_app (xs ys : List (Policy × Value)) : gcells (xs ++ ys) = gcells xs ++ gcells ys:=by simp [gcells]
/-- A row of them lies at the head of block b. -/
def RowP (w : World) (b : Nat) (ety : TypeId) (cells : Array Value) (gs : List (Policy × Value)) : Prop:=w.heap[b]? = some (.cells cells ety (0,0)) ∧ gs.length * 4 ≤ cells.size ∧ ∀ j,j < gs.length * 4 → cells[j]? = (gcells gs)[j]?
theorem RowP.cell {w : World} {b : Nat} {ety : TypeId} {cells : Array Value} {gs : List (Policy × Value)} (h : RowP w b ety cells gs) {W : World} (hW : W.heap[b]? = w.heap[b]?) {j : Nat} (hj : j < gs.length) {g : Policy × Value} (hg : gs[j] = g) :
    W.cell? ⟨b,j * 4,none⟩ = some (.string g.1.dom) ∧ W.cell? ⟨b,j * 4 + 1,none⟩ = some (.int .i64 g.1.mode) ∧ W.cell? ⟨b,j * 4 + 2,none⟩ = some g.2 ∧ W.cell? ⟨b,j * 4 + 3,none⟩ = some (.int .i64 g.1.til):=by
  have key : ∀ i,i < 4 → ∀ v,(pvs g)[i]? = some v → W.cell? ⟨b,j * 4 + i,none⟩ = some v:=fun i hi v hv => by
    refine cell_of (hW.trans h.1) ?_
    rw [h.2.2 _ (by omega),gcells_get gs j i hj hi,hg,hv]
  exact ⟨key 0 (by decide) _ rfl,key 1 (by decide) _ rfl,key 2 (by decide) _ rfl,key 3 (by decide) _ rfl⟩
/-- What is asked of an element, whatever lies in memory. -/
theorem del_any (p : Policy) (u : Value) (now : Int) (B : Nat) (W : World) (hc : W.cell? ⟨B,0,none⟩ = some (.int .i64 now)) :
    Calls Try.prog 16 #[.agg #[.string p.dom,.int .i64 p.mode,u,.int .i64 p.til],.pointer (some ⟨B,0,none⟩)] W fun e w' => e = .returned (.bool (decide (p.til < now))) ∧ Fr (fun _ => False) W w':=by
  have hc2 : ∀ o,(W.alloc o).cell? ⟨B,0,none⟩ = some (.int .i64 now):=fun o => Lib.cell?_alloc_some o hc
  go_enter Try.func16,Try.ntmps16
  go_wp2
  all_goals
    go_ret
    refine ⟨by simp_all,?_⟩
    exact (Fr.alloc W _).trans (Fr.refl _ _) (fun _ _ h => h)
/-- The first element that is struck out. -/
def FirstAt (gs : List (Policy × Value)) (now : Int) (r : Int) : Prop :=
  (r = -1 ∧ ∀ j (h : j < gs.length),now ≤ gs[j].1.til) ∨ ∃ k : Nat,r = k ∧ ∃ h : k < gs.length,gs[k].1.til < now ∧ ∀ j (h : j < gs.length),j < k → now ≤ gs[j].1.til
set_option maxRecDepth 100000 in
theorem idx_any (gs : List (Policy × Value)) (now : Int) (B b c n : Nat) (ad : Option Addr) (ety : TypeId) (cells : Array Value) (w : World) (hn : gs.length = n) (hl : n ≤ 140737488355328) (had : 0 < n → ad = some ⟨b,0,none⟩ ∧ RowP w b ety cells gs)
    (hB : B < w.heap.size) (hc : w.cell? ⟨B,0,none⟩ = some (.int .i64 now)) :
    Calls Try.prog 23 #[.slice ad n c,.func (.func 16) #[] #[.pointer (some ⟨B,0,none⟩)]] w fun e w' => ∃ r,e = .returned (.int .i64 r) ∧ FirstAt gs now r ∧ Fr (fun _ => False) w w':=by
  go_enter Try.func23,Try.ntmps23
  go_wp2
  go_loopg [5,8] n (fun gg _ s8 wr => ∃ kk : Nat,kk ≤ n ∧ n - kk ≤ gg ∧ s8 = .int .i64 kk ∧ Aside (Fr (fun _ => False) w wr) ∧ Aside (∀ j (h : j < gs.length),j < kk → now ≤ gs[j].1.til))
  case atStart => exact ⟨0,Nat.zero_le _,by omega,rfl,Fr.refl _ _,fun j _ hj => absurd hj (Nat.not_lt_zero _)⟩
  case round =>
    obtain ⟨kk,hkk,hg,rfl,BW,A⟩:=hrel
    by_cases hlt : kk < n
    · have hltz : (kk : Int) < (n : Int):=by omega
      obtain ⟨rfl,hrow⟩:=had (by omega)
      have hbl : b < w.heap.size:=(Array.getElem?_eq_some_iff.1 hrow.1).1
      obtain ⟨g,hy⟩ : ∃ g,gs[kk] = g:=⟨_,rfl⟩
      obtain ⟨l0,l1,l2,l3⟩:=hrow.cell (BW.out.block b hbl (fun h => h)) (by omega) hy
      have hcall:=del_any g.1 g.2 now B wr ((World.cell?_of_block (a:=⟨B,0,none⟩) (BW.out.block B hB (fun h => h))).trans hc)
      clear hrow had hc
      have C : Aside (gs[kk] = g):=hy
      clear hy
      by_cases hq : g.1.til < now
      · rw [decide_eq_true hq] at hcall
        go_wp2_with (go_at_call 16;refine hcall.mono ?_;rintro e w' ⟨rfl,hb'⟩)
        go_ret
        exact ⟨_,rfl,.inr ⟨kk,rfl,by omega,by rw [C.out];exact hq,A.out⟩,BW.out.trans hb' (fun _ _ h => h)⟩
      · rw [decide_eq_false hq] at hcall
        go_wp2_with (go_at_call 16;refine hcall.mono ?_;rintro e w' ⟨rfl,hb'⟩)
        go_roundg (n - (kk + 1))
        case measure => omega
        case rel =>
          refine ⟨kk + 1,by omega,by omega,by go_num,(show Aside _ from BW.out.trans hb' (fun _ _ h => h)),(show Aside _ from fun j hj hjk => ?_)⟩
          by_cases e : j = kk
          · subst e
            rw [C.out];omega
          · exact A.out j hj (by omega)
    · have hltz : ¬ (kk : Int) < (n : Int):=by omega
      have : kk = n:=by omega
      subst this
      go_wp2
      go_ret
      exact ⟨_,rfl,.inl ⟨rfl,fun j hj => A.out j hj (by omega)⟩,BW.out⟩
theorem frNone {B : Nat → Prop} {w w' : World} (h : Fr (fun _ => False) w w') : Fr B w w':=⟨h.os,h.tape,h.output,h.size,fun x hx _ => h.block x hx (fun h => h)⟩
/-- Those that stay. -/
def stays (now : Int) (gs : List (Policy × Value)) : List (Policy × Value):=gs.filter fun g => decide (now ≤ g.1.til)
theorem stays_succ (now : Int) (gs : List (Policy × Value)) (j : Nat) (h : j < gs.length) : stays now (gs.take (j + 1)) = stays now (gs.take j) ++ (if now ≤ gs[j].1.til then [gs[j]] else []):=by
  rw [List.take_succ_eq_append_getElem h,stays,List.filter_append]
  congr 1
  by_cases hh : now ≤ gs[j].1.til <;> simp [hh]
/-- j have been looked at; those that stay, i of them, lie at the head. -/
structure KeptP (now : Int) (gs : List (Policy × Value)) (cells cells' : Array Value) (j i : Nat) : Prop where
  len : (stays now (gs.take j)).length = i
  size : cells'.size = cells.size
  low : ∀ t,t < i * 4 → cells'[t]? = (gcells (stays now (gs.take j)))[t]?
  high : ∀ t,i * 4 ≤ t → cells'[t]? = cells[t]?
theorem KeptP.start {now : Int} {gs : List (Policy × Value)} {cells : Array Value} {k : Nat} (h : ∃ h : k < gs.length,gs[k].1.til < now ∧ ∀ j (h : j < gs.length),j < k → now ≤ gs[j].1.til) (hrow : ∀ j,j < gs.length * 4 → cells[j]? = (gcells gs)[j]?) : KeptP now gs cells cells (k + 1) k:=by
  obtain ⟨hk,hd,hb⟩:=h
  have e1 : stays now (gs.take k) = gs.take k:=List.filter_eq_self.2 fun g hg => by
    obtain ⟨j,hj,rfl⟩:=List.mem_iff_getElem.1 hg
    rw [List.length_take] at hj
    rw [List.getElem_take]
    exact decide_eq_true (hb j (by omega) (by omega))
  have e2 : stays now (gs.take (k + 1)) = gs.take k:=by rw [stays_succ now gs k hk,if_neg (by omega),List.append_nil,e1]
  refine ⟨by rw [e2,List.length_take];omega,rfl,fun t ht => ?_,fun t _ => rfl⟩
  rw [e2,hrow t (by omega)]
  have e3 : gcells gs = gcells (gs.take k) ++ gcells (gs.drop k):=by rw [← gcells_app,List.take_append_drop]
  rw [e3,List.getElem?_append_left (by rw [gcells_len,List.length_take];omega)]
theorem KeptP.skip {now : Int} {gs : List (Policy × Value)} {cells cells' : Array Value} {j i : Nat} (h : KeptP now gs cells cells' j i) (hj : j < gs.length) (hd : gs[j].1.til < now) : KeptP now gs cells cells' (j + 1) i:=by
  have e : stays now (gs.take (j + 1)) = stays now (gs.take j):=by rw [stays_succ now gs j hj,if_neg (by omega),List.append_nil]
  exact ⟨by rw [e];exact h.len,h.size,fun t ht => by rw [e];exact h.low t ht,h.high⟩
theorem KeptP.keep {now : Int} {gs : List (Policy × Value)} {cells cells' : Array Value} {j i : Nat} (h : KeptP now gs cells cells' j i) (hj : j < gs.length) (hij : i < j) (hd : now ≤ gs[j].1.til) (hsz : gs.length * 4 ≤ cells.size) {g : Policy × Value} (hg : gs[j] = g) {u : Value} (hu : g.2 = u) :
    KeptP now gs cells ((((cells'.setIfInBounds (i * 4) (.string g.1.dom)).setIfInBounds (i * 4 + 1) (.int .i64 g.1.mode)).setIfInBounds (i * 4 + 2) u).setIfInBounds (i * 4 + 3) (.int .i64 g.1.til)) (j + 1) (i + 1):=by
  have e : stays now (gs.take (j + 1)) = stays now (gs.take j) ++ [g]:=by rw [stays_succ now gs j hj,if_pos hd,hg]
  have hs:=h.size
  have hl:=h.len
  refine ⟨by rw [e,List.length_append,hl];rfl,by simpa using hs,fun t ht => ?_,fun t ht => ?_⟩
  · rw [e,gcells_app]
    have hgl : (gcells (stays now (gs.take j))).length = i * 4:=by rw [gcells_len,hl]
    rw [Array.getElem?_setIfInBounds,Array.getElem?_setIfInBounds,Array.getElem?_setIfInBounds,Array.getElem?_setIfInBounds]
    by_cases h1 : t < i * 4
    · rw [if_neg (by omega),if_neg (by omega),if_neg (by omega),if_neg (by omega),h.low t h1,List.getElem?_append_left (by omega)]
    · rw [List.getElem?_append_right (by omega),hgl]
      have hgc : gcells [g] = [.string g.1.dom,.int .i64 g.1.mode,u,.int .i64 g.1.til]:=by simp [gcells,pvs,hu]
      rw [hgc]
      obtain ⟨m,rfl⟩ : ∃ m,t = i * 4 + m:=⟨t - i * 4,by omega⟩
      rw [Nat.add_sub_cancel_left]
      have hm : m < 4:=by omega
      match m,hm with
      | 0,_ => rw [if_neg (by omega),if_neg (by omega),if_neg (by omega),if_pos (by omega),if_pos (by omega)];rfl
      | 1,_ => rw [if_neg (by omega),if_neg (by omega),if_pos (by omega),if_pos (by simp;omega)];rfl
      | 2,_ => rw [if_neg (by omega),if_pos (by omega),if_pos (by simp;omega)];rfl
      | 3,_ => rw [if_pos (by omega),if_pos (by simp;omega)];rfl
      | m + 4,h => omega
  · rw [Array.getElem?_setIfInBounds,if_neg (by omega),Array.getElem?_setIfInBounds,if_neg (by omega),Array.getElem?_setIfInBounds,if_neg (by omega),Array.getElem?_setIfInBounds,if_neg (by omega)]
    exact h.high t (by omega)
theorem setCells_blk {b : Nat} {ety : TypeId} : ∀ (L : List Value) (o : Nat) (w : World) (cells : Array Value),w.heap[b]? = some (.cells cells ety (0,0)) → ∃ cells',(w.setCells b o L).heap[b]? = some (.cells cells' ety (0,0)) ∧ cells'.size = cells.size ∧ ∀ t,t < o → cells'[t]? = cells[t]?
  | [],_,_,cells,h => ⟨cells,h,rfl,fun _ _ => rfl⟩
  | v :: r,o,w,cells,h => by
    obtain ⟨c',h1,h2,h3⟩:=setCells_blk r (o + 1) (w.setCell ⟨b,o,none⟩ v) _ (setCell_blk h)
    refine ⟨c',h1,by rw [h2];simp,fun t ht => ?_⟩
    rw [h3 t (by omega),Array.getElem?_setIfInBounds,if_neg (by omega)]
theorem setCells_fr {b : Nat} : ∀ (L : List Value) (o : Nat) (w : World),Fr (fun x => x = b) w (w.setCells b o L)
  | [],_,w => Fr.refl _ w
  | v :: r,o,w => (Fr.set (B:=fun x => x = b) w ⟨b,o,none⟩ v rfl).trans (setCells_fr r (o + 1) _) (fun _ _ h => h)
/-- 'clear' of policies. -/
theorem clear4 (w : World) (b o n c : Nat) (hn : 0 < n) (hc : ∀ j,j < n * 4 → (w.cell? ⟨b,o + j,none⟩).isSome = true) (hf : ∀ j,w.frozen? ⟨b,j,none⟩ = false) :
    ∃ L : List Value,∀ ty,(Builtin.clear_ #[24] ty #[.slice (some ⟨b,o,none⟩) n c]).run Try.prog w = .ok (.tuple #[]) (w.setCells b o L):=by
  refine ⟨(Builtin.zeroCells #[.string ⟨#[]⟩,.int .i64 0,.slice none 0 0,.int .i64 0] n).toList,fun ty => ?_⟩
  have hlen : (Builtin.zeroCells #[.string ⟨#[]⟩,.int .i64 0,.slice none 0 0,.int .i64 0] n).toList.length = n * 4:=by simp [Builtin.zeroCells]
  have h1 : ∀ v ∈ (Builtin.zeroCells #[.string ⟨#[]⟩,.int .i64 0,.slice none 0 0,.int .i64 0] n).toList,v.oneCell' = true:=by
    intro v hv
    simp only [Builtin.zeroCells,Array.toList_map,List.mem_map] at hv
    obtain ⟨i,_,rfl⟩:=hv
    have hi : i % 4 < 4:=Nat.mod_lt _ (by decide)
    show (#[Value.string ⟨#[]⟩,.int .i64 0,.slice none 0 0,.int .i64 0][i % 4]!).oneCell' = true
    generalize i % 4 = m at hi
    match m,hi with
    | 0,_ => rfl
    | 1,_ => rfl
    | 2,_ => rfl
    | 3,_ => rfl
    | m + 4,h => omega
  have hst:=run_storeCells_cells (P:=Try.prog) b o _ 0 w (fun j hj => by rw [Nat.add_zero];exact hc j (by rw [hlen] at hj;exact hj)) (fun j hj => hf _) h1
  simp only [Nat.add_zero] at hst
  have ht : Try.prog.underlying 24 = some (.slice 34):=by kernel_rfl
  obtain ⟨m,rfl⟩ : ∃ m,n = m + 1:=⟨n - 1,by omega⟩
  have hv : ∀ w,(zeroValue 34).run Try.prog w = .ok (.agg #[.string ⟨#[]⟩,.int .i64 0,.slice none 0 0,.int .i64 0]) w:=Try.zeroValue34
  simp [Builtin.clear_,run_underlying ht,hv,Value.cells,hst]
set_option maxRecDepth 100000 in
theorem dfn_any (gs : List (Policy × Value)) (now : Int) (B b c n : Nat) (ad : Option Addr) (ety : TypeId) (cells : Array Value) (w : World) (hn : gs.length = n) (hl : n ≤ 140737488355328) (hcap : n ≤ c) (hone : ∀ j (h : j < gs.length),∃ ua ul uc,gs[j].2 = .slice ua ul uc) (had : 0 < n → ad = some ⟨b,0,none⟩ ∧ RowP w b ety cells gs)
    (hB : B < w.heap.size) (hBb : B ≠ b) (hc : w.cell? ⟨B,0,none⟩ = some (.int .i64 now)) :
    Calls Try.prog 14 #[.slice ad n c,.func (.func 16) #[] #[.pointer (some ⟨B,0,none⟩)]] w fun e w' => e = .returned (.slice ad (stays now gs).length c) ∧ Fr (fun x => x = b ∧ 0 < n) w w' ∧ (0 < n → ∃ cells',cells'.size = cells.size ∧ RowP w' b ety cells' (stays now gs)):=by
  have hidx:=idx_any gs now B b c n ad ety cells w hn hl had hB hc
  go_enter Try.func14,Try.ntmps14
  go_wp2_with (first|(go_at_call 23;refine hidx.mono ?_;rintro e w1 ⟨r,rfl,hr,hf1⟩)|go_in)
  · have h0 : r = -1:=beq_iff_eq.1 (by assumption)
    rcases hr with ⟨_,hall⟩|⟨k,hk',_⟩
    · have hst : stays now gs = gs:=List.filter_eq_self.2 fun g hg => by
        obtain ⟨j,hj,rfl⟩:=List.mem_iff_getElem.1 hg
        exact decide_eq_true (hall j hj)
      have HH : Aside (0 < n → ad = some ⟨b,0,none⟩ ∧ RowP w b ety cells gs):=had
      clear hidx had hall
      go_ret
      refine ⟨by rw [hst,hn];rfl,frNone hf1,fun h0 => ⟨cells,rfl,?_⟩⟩
      rw [hst]
      obtain ⟨_,g1,g2⟩:=HH.out h0
      exact ⟨(hf1.block b (Array.getElem?_eq_some_iff.1 g1).1 (fun h => h)).trans g1,g2⟩
    · omega
  · have h0 : (r == -1) = false:=by assumption
    rcases hr with ⟨h1,_⟩|⟨k,rfl,hk,hd,hbef⟩
    · subst h1;exact absurd h0 (by decide)
    obtain ⟨rfl,hrow⟩:=had (by omega)
    have HR : Aside (RowP w b ety cells gs):=hrow
    have hkn : k < n:=by omega
    have HKD : Aside (∃ h : k < gs.length,gs[k].1.til < now ∧ ∀ j (h : j < gs.length),j < k → now ≤ gs[j].1.til):=⟨hk,hd,hbef⟩
    have HC : Aside (w.cell? ⟨B,0,none⟩ = some (.int .i64 now)):=hc
    clear hidx had hrow hk hd hbef hc h0
    go_loopg [5,6,7] n (fun gg s5 s6 _ wr => ∃ (i j : Nat) (cells' : Array Value),s5 = .int .i64 i ∧ s6 = .int .i64 j ∧ i < j ∧ j ≤ n ∧ n - j ≤ gg ∧ Aside (Fr (fun x => x = b) w wr) ∧ Aside (KeptP now gs cells cells' j i) ∧ Aside (wr.heap[b]? = some (.cells cells' ety (0,0))))
    case atStart => exact ⟨k,k + 1,cells,rfl,by rw [w64 (by omega) (by omega)];rfl,by omega,by omega,by omega,(show Aside _ from frNone hf1),(show Aside _ from KeptP.start HKD.out HR.out.2.2),(show Aside _ from (hf1.block b (Array.getElem?_eq_some_iff.1 HR.out.1).1 (fun h => h)).trans HR.out.1)⟩
    case round =>
      obtain ⟨i,j,cells',rfl,rfl,hij,hjn,hg,FW,KW,HW⟩:=hrel
      have hbl : b < wr.heap.size:=(Array.getElem?_eq_some_iff.1 HW.out).1
      have hcs : cells'.size = cells.size:=KW.out.size
      have hcz : n * 4 ≤ cells.size:=by have:=HR.out.2.1;rwa [hn] at this
      by_cases hlt : j < n
      · have hltz : (j : Int) < (n : Int):=by omega
        obtain ⟨g,hy⟩ : ∃ g,gs[j]'(by omega) = g:=⟨_,rfl⟩
        obtain ⟨ua,ul,uc,hu⟩ : ∃ ua ul uc,g.2 = .slice ua ul uc:=by have:=hone j (by omega);rwa [hy] at this
        have key : ∀ t,t < 4 → ∀ v,(pvs g)[t]? = some v → wr.cell? ⟨b,j * 4 + t,none⟩ = some v:=fun t ht v hv => by
          refine cell_of HW.out ?_
          rw [KW.out.high _ (by omega),HR.out.2.2 _ (by omega),gcells_get gs j t (by omega) ht,hy,hv]
        obtain ⟨l0,l1,l2,l3⟩ : wr.cell? ⟨b,j * 4,none⟩ = some (.string g.1.dom) ∧ wr.cell? ⟨b,j * 4 + 1,none⟩ = some (.int .i64 g.1.mode) ∧ wr.cell? ⟨b,j * 4 + 2,none⟩ = some (.slice ua ul uc) ∧ wr.cell? ⟨b,j * 4 + 3,none⟩ = some (.int .i64 g.1.til) :=
          ⟨key 0 (by decide) _ rfl,key 1 (by decide) _ rfl,key 2 (by decide) _ (by rw [← hu];rfl),key 3 (by decide) _ rfl⟩
        have hcB : wr.cell? ⟨B,0,none⟩ = some (.int .i64 now):=(World.cell?_of_block (a:=⟨B,0,none⟩) (FW.out.block B hB hBb)).trans HC.out
        have HcB : Aside (∀ o,(wr.alloc o).cell? ⟨B,0,none⟩ = some (.int .i64 now)):=fun o => Lib.cell?_alloc_some o hcB
        have C : Aside (gs[j]'(by omega) = g):=hy
        have HU : Aside (g.2 = .slice ua ul uc):=hu
        have Hbl : Aside (b < wr.heap.size):=hbl
        have Hcz : Aside (n * 4 ≤ cells'.size):=by rw [hcs];exact hcz
        clear hy hu key hcB hbl hcs hcz hone
        have hdel:=fun (W : World) (hW : W.cell? ⟨B,0,none⟩ = some (.int .i64 now)) => del_any g.1 (.slice ua ul uc) now B W hW
        by_cases hq : g.1.til < now
        · rw [decide_eq_true hq] at hdel
          go_wp2_with (first|(go_at_call 16;refine (hdel _ (HcB.out _)).mono ?_;rintro e w2 ⟨rfl,hf2⟩)|go_in)
          go_roundg (n - (j + 1))
          case measure => omega
          case rel =>
            exact ⟨i,j + 1,cells',rfl,by go_num,by omega,by omega,Nat.le_refl _,(show Aside _ from FW.out.trans ((Fr.alloc (B:=fun x => x = b) wr _).trans (frNone hf2) (fun _ _ h => h)) (fun _ _ h => h)),(show Aside _ from KW.out.skip (by omega) (by rw [C.out];exact hq)),
              (show Aside _ from (hf2.block b (by simp;exact Nat.lt_succ_of_lt Hbl.out) (fun h => h)).trans ((Below.heap_alloc wr _ b Hbl.out).trans HW.out))⟩
        · rw [decide_eq_false hq] at hdel
          go_wp2_with (first
            | (go_at_call 16;refine (hdel _ (HcB.out _)).mono ?_;rintro e w2 ⟨rfl,hf2⟩;have hb2 : w2.heap[b]? = some (.cells cells' ety (0,0)):=(hf2.block b (by simp;exact Nat.lt_succ_of_lt Hbl.out) (fun h => h)).trans ((Below.heap_alloc wr _ b Hbl.out).trans HW.out);have hx2:=hf2.block wr.heap.size (by simp) (fun h => h);rw [heap_alloc_new] at hx2;have hx20 : w2.cell? ⟨wr.heap.size,0,none⟩ = some (.string g.1.dom):=cell_of hx2 rfl;have hx21 : w2.cell? ⟨wr.heap.size,1,none⟩ = some (.int .i64 g.1.mode):=cell_of hx2 rfl;have hx22 : w2.cell? ⟨wr.heap.size,2,none⟩ = some (.slice ua ul uc):=cell_of hx2 rfl;have hx23 : w2.cell? ⟨wr.heap.size,3,none⟩ = some (.int .i64 g.1.til):=cell_of hx2 rfl;have hz2 : ∀ k,w2.frozen? ⟨b,k,none⟩ = false:=fun k => frz_of hb2;obtain ⟨o0,ho0⟩ : ∃ v,w2.cell? ⟨b,i * 4,none⟩ = some v:=⟨_,cell_of hb2 (Array.getElem?_eq_getElem (by have:=Hcz.out;omega))⟩;obtain ⟨o1,ho1⟩ : ∃ v,w2.cell? ⟨b,i * 4 + 1,none⟩ = some v:=⟨_,cell_of hb2 (Array.getElem?_eq_getElem (by have:=Hcz.out;omega))⟩;obtain ⟨o2,ho2⟩ : ∃ v,w2.cell? ⟨b,i * 4 + 2,none⟩ = some v:=⟨_,cell_of hb2 (Array.getElem?_eq_getElem (by have:=Hcz.out;omega))⟩;obtain ⟨o3,ho3⟩ : ∃ v,w2.cell? ⟨b,i * 4 + 3,none⟩ = some v:=⟨_,cell_of hb2 (Array.getElem?_eq_getElem (by have:=Hcz.out;omega))⟩)
            | go_in)
          go_roundg (n - (j + 1))
          case measure => omega
          case rel =>
            refine ⟨i + 1,j + 1,_,by go_num,by go_num,by omega,by omega,Nat.le_refl _,(show Aside _ from ?_),(show Aside _ from KW.out.keep (by omega) hij (by rw [C.out];omega) HR.out.2.1 C.out HU.out),(show Aside _ from setCell_blk (setCell_blk (setCell_blk (setCell_blk hb2))))⟩
            exact FW.out.trans ((Fr.alloc (B:=fun x => x = b) wr _).trans ((frNone hf2).trans ((Fr.set (B:=fun x => x = b) _ _ _ rfl).trans ((Fr.set (B:=fun x => x = b) _ _ _ rfl).trans ((Fr.set (B:=fun x => x = b) _ _ _ rfl).trans (Fr.set (B:=fun x => x = b) _ _ _ rfl) (fun _ _ h => h)) (fun _ _ h => h)) (fun _ _ h => h)) (fun _ _ h => h)) (fun _ _ h => h)) (fun _ _ h => h)
      · obtain rfl : j = n:=by omega
        have hltz : ¬ (j : Int) < (j : Int):=by omega
        obtain ⟨L,hcl⟩:=clear4 wr b (i * 4) (j - i) (c - i) (by omega) (fun t ht => by rw [cell_of HW.out (Array.getElem?_eq_getElem (show i * 4 + t < cells'.size by omega))];rfl) (fun k => frz_of HW.out)
        go_wp2
        go_ret
        have hi:=KW.out.len
        rw [← hn,List.take_length] at hi
        obtain ⟨c2,h1,h2,h3⟩:=setCells_blk L (i * 4) wr cells' HW.out
        have hlow:=KW.out.low
        rw [← hn,List.take_length] at hlow
        refine ⟨by rw [hi];rfl,(FW.out.trans (setCells_fr L (i * 4) wr) (fun _ _ h => h)) |> fun h => ⟨h.os,h.tape,h.output,h.size,fun x hx hnx => h.block x hx (fun e => hnx ⟨e,by omega⟩)⟩,fun _ => ⟨c2,by rw [h2,hcs],h1,by rw [h2,hcs,hi];omega,fun t ht => ?_⟩⟩
        rw [h3 t (by omega)]
        exact hlow t (by omega)
end Go.Proofs.Ytockalkgjoaicaa
