/- Data that is read, data that is owned, abstract values, and how they stand to the machine's values. -/
import Derived.Test.YtlddcimpdkcgeaaGreatDoorS0
import Derived.Below
import Derived.Tactics
import Derived.OwnWalk
import Derived.Laws.OwnMore
import Derived.Laws.Rows
import Derived.Deep.Quiet
set_option linter.unusedVariables false
set_option linter.unusedSimpArgs false
namespace Go.Proofs.YtlddcimpdkcgeaaGreatDoor.Sym
open List (getElem?_cons_succ getElem?_cons_zero)
open Go.RowKit
inductive D where
  | int (k : IntKind) (n : Int)
  | bool (b : Bool)
  | str (s : ByteArray)
  | sl (xs : List (List D))
  | ifc (b : Bool)
instance : Inhabited D:=⟨.bool false⟩
inductive Rep (w : World) (ok : Nat → Prop) : Value → D → Prop
  | int (k : IntKind) (n : Int) : k.min ≤ n → n ≤ k.max → Rep w ok (.int k n) (.int k n)
  | bool (b : Bool) : Rep w ok (.bool b) (.bool b)
  | str (s : ByteArray) : s.size ≤ 4611686018427387904 → Rep w ok (.string s) (.str s)
  | ifc0 : Rep w ok .nilIface (.ifc false)
  | ifc1 (t : TypeId) (x : Value) : Rep w ok (.iface t x) (.ifc true)
  | sl (xs : List (List D)) (a : Option Addr) (c : Nat) (U : Nat → Nat → Value) (e : Nat) :
      xs.length ≤ c → xs.length ≤ 140737488355328 → (∀ ds,ds ∈ xs → ds.length = e) →
      (0 < xs.length → ∃ b o,a = some ⟨b,o,none⟩ ∧ ok b ∧ ∀ j ds,xs[j]? = some ds → ∀ i d,ds[i]? = some d → w.cell? ⟨b,o + (j * e + i),none⟩ = some (U j i)) →
      (∀ j ds,xs[j]? = some ds → ∀ i d,ds[i]? = some d → Rep w ok (U j i) d) → Rep w ok (.slice a xs.length c) (.sl xs)
theorem cell_same {w w' : World} {b o : Nat} (h : w'.heap[b]? = w.heap[b]?) : w'.cell? ⟨b,o,none⟩ = w.cell? ⟨b,o,none⟩:=World.cell?_of_block (a:=⟨b,o,none⟩) h
theorem Rep.move {w w' : World} {ok ok' : Nat → Prop} {v : Value} {x : D} (h : Rep w ok v x) (hm : ∀ b,ok b → ok' b ∧ w'.heap[b]? = w.heap[b]?) : Rep w' ok' v x:=by
  induction h with
  | int k n h1 h2 => exact .int k n h1 h2
  | bool b => exact .bool b
  | str s h => exact .str s h
  | ifc0 => exact .ifc0
  | ifc1 t x => exact .ifc1 t x
  | sl xs a c U e h1 h2 h3 h4 h5 ih =>
    refine .sl xs a c U e h1 h2 h3 (fun hp => ?_) ih
    obtain ⟨b,o,ha,hb,hc⟩:=h4 hp
    exact ⟨b,o,ha,(hm b hb).1,fun j ds hj i d hi => (cell_same (hm b hb).2).trans (hc j ds hj i d hi)⟩
theorem Rep.one {w : World} {ok : Nat → Prop} {v : Value} {x : D} (h : Rep w ok v x) : v.oneCell' = true:=by cases h <;> rfl
theorem Rep.nil (w : World) (ok : Nat → Prop) (a : Option Addr) (c : Nat) : Rep w ok (.slice a 0 c) (.sl []):=by
  have:=Rep.sl (w:=w) (ok:=ok) [] a c (fun _ _ => .bool false) 0 (Nat.zero_le _) (by decide) (by simp) (by simp) (by simp)
  simpa using this
def RepL (w : World) (ok : Nat → Prop) : List Value → List D → Prop
  | [],[] => True
  | v :: vs,d :: ds => Rep w ok v d ∧ RepL w ok vs ds
  | _,_ => False
theorem RepL.length {w : World} {ok : Nat → Prop} : ∀ {vs : List Value} {ds : List D},RepL w ok vs ds → vs.length = ds.length
  | [],[],_ => rfl
  | _ :: _,_ :: _,h => by simp [RepL.length h.2]
theorem RepL.get {w : World} {ok : Nat → Prop} : ∀ {vs : List Value} {ds : List D},RepL w ok vs ds → ∀ {i : Nat} {d : D},ds[i]? = some d → ∃ v,vs[i]? = some v ∧ Rep w ok v d
  | [],[],_,i,d,hd => by simp at hd
  | v :: vs,x :: ds,h,0,d,hd => by
    simp only [getElem?_cons_zero,Option.some.injEq] at hd ⊢
    exact ⟨v,rfl,hd ▸ h.1⟩
  | v :: vs,x :: ds,h,i + 1,d,hd => by
    simp only [getElem?_cons_succ] at hd ⊢
    exact RepL.get h.2 hd
theorem RepL.of_get {w : World} {ok : Nat → Prop} : ∀ {vs : List Value} {ds : List D},vs.length = ds.length → (∀ (i : Nat) (v : Value) (d : D),vs[i]? = some v → ds[i]? = some d → Rep w ok v d) → RepL w ok vs ds
  | [],[],_,_ => trivial
  | v :: vs,x :: ds,hl,h => ⟨h 0 v x rfl rfl,RepL.of_get (by simpa using hl) (fun i v d h1 h2 => h (i + 1) v d (by simpa using h1) (by simpa using h2))⟩
theorem RepL.move {w w' : World} {ok ok' : Nat → Prop} (hm : ∀ b,ok b → ok' b ∧ w'.heap[b]? = w.heap[b]?) : ∀ {vs : List Value} {ds : List D},RepL w ok vs ds → RepL w' ok' vs ds
  | [],[],_ => trivial
  | _ :: _,_ :: _,h => ⟨h.1.move hm,RepL.move hm h.2⟩
theorem RepL.app {w : World} {ok : Nat → Prop} : ∀ {vs : List Value} {ds : List D} {vs' : List Value} {ds' : List D},RepL w ok vs ds → RepL w ok vs' ds' → RepL w ok (vs ++ vs') (ds ++ ds')
  | [],[],_,_,_,h' => h'
  | _ :: _,_ :: _,_,_,h,h' => ⟨h.1,RepL.app h.2 h'⟩
theorem RepL.take {w : World} {ok : Nat → Prop} : ∀ {vs : List Value} {ds : List D} (n : Nat),RepL w ok vs ds → RepL w ok (vs.take n) (ds.take n)
  | [],[],n,_ => by simp [RepL]
  | _ :: _,_ :: _,0,_ => trivial
  | _ :: _,_ :: _,n + 1,h => ⟨h.1,RepL.take n h.2⟩
theorem RepL.drop {w : World} {ok : Nat → Prop} : ∀ {vs : List Value} {ds : List D} (n : Nat),RepL w ok vs ds → RepL w ok (vs.drop n) (ds.drop n)
  | [],[],n,_ => by simp [RepL]
  | _ :: _,_ :: _,0,h => h
  | _ :: _,_ :: _,n + 1,h => RepL.drop n h.2
theorem RepL.one {w : World} {ok : Nat → Prop} : ∀ {vs : List Value} {ds : List D},RepL w ok vs ds → ∀ u ∈ vs,u.oneCell' = true
  | [],[],_,u,hu => by cases hu
  | _ :: _,_ :: _,h,u,hu => by
    rcases List.mem_cons.1 hu with rfl|hu
    · exact h.1.one
    · exact RepL.one h.2 u hu
theorem flat_get {α : Type} {e : Nat} : ∀ {xs : List (List α)},(∀ l,l ∈ xs → l.length = e) → ∀ (j i : Nat) (l : List α),xs[j]? = some l → i < e → xs.flatten[j * e + i]? = l[i]?
  | [],_,j,i,l,hj,_ => by simp at hj
  | y :: ys,hu,0,i,l,hj,hi => by
    have hy : y.length = e:=hu y (List.mem_cons_self ..)
    simp only [getElem?_cons_zero,Option.some.injEq] at hj
    subst hj
    rw [List.flatten_cons,Nat.zero_mul,Nat.zero_add,List.getElem?_append_left (by omega)]
  | y :: ys,hu,j + 1,i,l,hj,hi => by
    have hy : y.length = e:=hu y (List.mem_cons_self ..)
    simp only [getElem?_cons_succ] at hj
    have hk : (j + 1) * e + i = y.length + (j * e + i):=by rw [hy,Nat.succ_mul];omega
    rw [List.flatten_cons,hk,List.getElem?_append_right (by omega),Nat.add_sub_cancel_left]
    exact flat_get (fun l hl => hu l (List.mem_cons_of_mem _ hl)) j i l hj hi
theorem flat_len {α : Type} {e : Nat} : ∀ {xs : List (List α)},(∀ l,l ∈ xs → l.length = e) → xs.flatten.length = xs.length * e
  | [],_ => by simp
  | y :: ys,hu => by
    rw [List.flatten_cons,List.length_append,hu y (List.mem_cons_self ..),flat_len (fun l hl => hu l (List.mem_cons_of_mem _ hl)),List.length_cons,Nat.succ_mul,Nat.add_comm]
theorem Rep.of_cells {w : World} {ok : Nat → Prop} {xs : List (List D)} {b o c e : Nat} {us : List Value} (hc : xs.length ≤ c) (hm : xs.length ≤ 140737488355328) (he : ∀ ds,ds ∈ xs → ds.length = e)
    (hb : ok b) (hcell : ∀ i u,us[i]? = some u → w.cell? ⟨b,o + i,none⟩ = some u) (hr : RepL w ok us xs.flatten) : Rep w ok (.slice (some ⟨b,o,none⟩) xs.length c) (.sl xs):=by
  have key : ∀ j ds,xs[j]? = some ds → ∀ i d,ds[i]? = some d → ∃ u,us[j * e + i]? = some u ∧ Rep w ok u d:=by
    intro j ds hj i d hi
    have hie : i < e:=by rw [← he ds (List.mem_of_getElem? hj)];exact (List.getElem?_eq_some_iff.1 hi).1
    exact hr.get ((flat_get he j i ds hj hie).trans hi)
  refine .sl xs _ c (fun j i => (us[j * e + i]?).getD undef) e hc hm he (fun _ => ⟨b,o,rfl,hb,fun j ds hj i d hi => ?_⟩) (fun j ds hj i d hi => ?_)
  · obtain ⟨u,hu,_⟩:=key j ds hj i d hi
    rw [hcell _ u hu,hu];rfl
  · obtain ⟨u,hu,hr⟩:=key j ds hj i d hi
    simpa [hu] using hr
theorem Rep.elem {w : World} {ok : Nat → Prop} {xs : List (List D)} {v : Value} (h : Rep w ok v (.sl xs)) {j : Nat} {ds : List D} (hj : xs[j]? = some ds) :
    ∃ b o c us,v = .slice (some ⟨b,o,none⟩) xs.length c ∧ ok b ∧ (∀ i u,us[i]? = some u → w.cell? ⟨b,o + j * ds.length + i,none⟩ = some u) ∧ RepL w ok us ds:=by
  cases h with
  | sl xs a c U e h1 h2 h3 h4 h5 =>
    have hl:=(List.getElem?_eq_some_iff.1 hj).1
    obtain ⟨b,o,rfl,hb,hc⟩:=h4 (by omega)
    have he : ds.length = e:=h3 ds (List.mem_of_getElem? hj)
    refine ⟨b,o,c,(List.range ds.length).map (U j),rfl,hb,fun i u hu => ?_,?_⟩
    · rw [List.getElem?_map] at hu
      obtain ⟨i',hi',rfl⟩:=Option.map_eq_some_iff.1 hu
      obtain ⟨hlt,rfl⟩:=List.getElem?_eq_some_iff.1 hi'
      rw [List.length_range] at hlt
      have:=hc j ds hj i ds[i] (List.getElem?_eq_getElem hlt)
      rw [List.getElem_range,he,Nat.add_assoc]
      exact this
    · refine RepL.of_get (by simp) (fun i u d hu hd => ?_)
      rw [List.getElem?_map] at hu
      obtain ⟨i',hi',rfl⟩:=Option.map_eq_some_iff.1 hu
      obtain ⟨hlt,rfl⟩:=List.getElem?_eq_some_iff.1 hi'
      rw [List.getElem_range]
      exact h5 j ds hj i d hd
theorem Rep.cells {w : World} {ok : Nat → Prop} {xs : List (List D)} {v : Value} (h : Rep w ok v (.sl xs)) :
    ∃ a c,v = .slice a xs.length c ∧ xs.length ≤ c ∧ xs.length ≤ 140737488355328 ∧ ∀ e,(∀ ds,ds ∈ xs → ds.length = e) → 0 < xs.length → ∃ b o us,a = some ⟨b,o,none⟩ ∧ ok b ∧ (∀ i u,us[i]? = some u → w.cell? ⟨b,o + i,none⟩ = some u) ∧ RepL w ok us xs.flatten:=by
  have hall:=fun j ds (hj : xs[j]? = some ds) => h.elem hj
  cases h with
  | sl xs a c U e h1 h2 h3 h4 h5 =>
    refine ⟨a,c,rfl,h1,h2,fun e' he' hp => ?_⟩
    obtain ⟨b,o,rfl,hb,hc⟩:=h4 hp
    have hee : e = e':=by
      have hm : xs[0] ∈ xs:=List.getElem_mem hp
      rw [← h3 _ hm,he' _ hm]
    subst hee
    refine ⟨b,o,(List.range (xs.length * e)).map (fun m => U (m / e) (m % e)),rfl,hb,fun m u hu => ?_,?_⟩
    · rw [List.getElem?_map] at hu
      obtain ⟨i',hi',rfl⟩:=Option.map_eq_some_iff.1 hu
      obtain ⟨hlt,rfl⟩:=List.getElem?_eq_some_iff.1 hi'
      rw [List.length_range] at hlt
      rw [List.getElem_range]
      have he0 : 0 < e:=Nat.pos_of_ne_zero (fun h => by subst h;simp at hlt)
      have hj : m / e < xs.length:=Nat.div_lt_of_lt_mul (by rw [Nat.mul_comm];exact hlt)
      have hi : m % e < (xs[m / e]).length:=by rw [h3 _ (List.getElem_mem hj)];exact Nat.mod_lt _ he0
      have:=hc (m / e) _ (List.getElem?_eq_getElem hj) (m % e) _ (List.getElem?_eq_getElem hi)
      rwa [Nat.mul_comm,Nat.div_add_mod] at this
    · refine RepL.of_get (by simp [flat_len h3]) (fun m u d hu hd => ?_)
      rw [List.getElem?_map] at hu
      obtain ⟨i',hi',rfl⟩:=Option.map_eq_some_iff.1 hu
      obtain ⟨hlt,rfl⟩:=List.getElem?_eq_some_iff.1 hi'
      rw [List.length_range] at hlt
      rw [List.getElem_range]
      have he0 : 0 < e:=Nat.pos_of_ne_zero (fun h => by subst h;simp at hlt)
      have hj : m / e < xs.length:=Nat.div_lt_of_lt_mul (by rw [Nat.mul_comm];exact hlt)
      have hi : m % e < (xs[m / e]).length:=by rw [h3 _ (List.getElem_mem hj)];exact Nat.mod_lt _ he0
      have hf:=flat_get h3 (m / e) (m % e) _ (List.getElem?_eq_getElem hj) (Nat.mod_lt _ he0)
      rw [Nat.mul_comm,Nat.div_add_mod,hd] at hf
      exact h5 (m / e) _ (List.getElem?_eq_getElem hj) (m % e) d hf.symm
inductive OwnL (w : World) : List Value → List D → List Nat → Prop
  | nil : OwnL w [] [] []
  | int (k : IntKind) (n : Int) (vs : List Value) (ds : List D) (F : List Nat) : k.min ≤ n → n ≤ k.max → OwnL w vs ds F → OwnL w (.int k n :: vs) (.int k n :: ds) F
  | bool (b : Bool) (vs : List Value) (ds : List D) (F : List Nat) : OwnL w vs ds F → OwnL w (.bool b :: vs) (.bool b :: ds) F
  | str (s : ByteArray) (vs : List Value) (ds : List D) (F : List Nat) : s.size ≤ 4611686018427387904 → OwnL w vs ds F → OwnL w (.string s :: vs) (.str s :: ds) F
  | none (a : Option Addr) (c : Nat) (vs : List Value) (ds : List D) (F : List Nat) : OwnL w vs ds F → OwnL w (.slice a 0 c :: vs) (.sl [] :: ds) F
  | sl (b c : Nat) (cells : Array Value) (ety e : Nat) (xs : List (List D)) (vs : List Value) (ds : List D) (F1 F2 : List Nat) :
      0 < xs.length → w.heap[b]? = some (.cells cells ety (0,0)) → (∀ l,l ∈ xs → l.length = e) → xs.length ≤ c → c ≤ maxLen → cells.size = c * e → xs.length ≤ 140737488355328 →
      OwnL w (cells.toList.take (xs.length * e)) xs.flatten F1 → OwnL w vs ds F2 → OwnL w (.slice (some ⟨b,0,Option.none⟩) xs.length c :: vs) (.sl xs :: ds) (b :: (F1 ++ F2))
theorem OwnL.move {w w' : World} {vs : List Value} {ds : List D} {F : List Nat} (h : OwnL w vs ds F) : (∀ b,b ∈ F → w'.heap[b]? = w.heap[b]?) → OwnL w' vs ds F:=by
  induction h with
  | nil => exact fun _ => .nil
  | int k n vs ds F h1 h2 _ ih => exact fun hm => .int k n vs ds F h1 h2 (ih hm)
  | bool b vs ds F _ ih => exact fun hm => .bool b vs ds F (ih hm)
  | str s vs ds F h _ ih => exact fun hm => .str s vs ds F h (ih hm)
  | none a c vs ds F _ ih => exact fun hm => .none a c vs ds F (ih hm)
  | sl b c cells ety e xs vs ds F1 F2 h0 h1 h2 h3 h4 h5 h6 _ _ ih1 ih2 =>
    exact fun hm => .sl b c cells ety e xs vs ds F1 F2 h0 ((hm b (by simp)).trans h1) h2 h3 h4 h5 h6 (ih1 (fun b' hb => hm b' (by simp [hb]))) (ih2 (fun b' hb => hm b' (by simp [hb])))
theorem OwnL.rep {w : World} {ok : Nat → Prop} {vs : List Value} {ds : List D} {F : List Nat} (h : OwnL w vs ds F) : (∀ b,b ∈ F → ok b) → RepL w ok vs ds:=by
  induction h with
  | nil => exact fun _ => trivial
  | int k n vs ds F h1 h2 _ ih => exact fun hm => ⟨.int k n h1 h2,ih hm⟩
  | bool b vs ds F _ ih => exact fun hm => ⟨.bool b,ih hm⟩
  | str s vs ds F h _ ih => exact fun hm => ⟨.str s h,ih hm⟩
  | none a c vs ds F _ ih => exact fun hm => ⟨Rep.nil _ _ _ _,ih hm⟩
  | sl b c cells ety e xs vs ds F1 F2 h0 h1 h2 h3 h4 h5 h6 _ _ ih1 ih2 =>
    intro hm
    refine ⟨Rep.of_cells (us:=cells.toList.take (xs.length * e)) h3 h6 h2 (hm b (by simp)) (fun i u hu => ?_) (ih1 (fun b' hb => hm b' (by simp [hb]))),ih2 (fun b' hb => hm b' (by simp [hb]))⟩
    rw [List.getElem?_take] at hu
    split at hu
    · rw [Nat.zero_add,World.cell?,h1]
      simpa using hu
    · cases hu
theorem OwnL.app {w : World} {vs : List Value} {ds : List D} {F : List Nat} (h : OwnL w vs ds F) {vs' : List Value} {ds' : List D} {F' : List Nat} (h' : OwnL w vs' ds' F') : OwnL w (vs ++ vs') (ds ++ ds') (F ++ F'):=by
  induction h with
  | nil => exact h'
  | int k n vs ds F h1 h2 _ ih => exact .int k n _ _ _ h1 h2 ih
  | bool b vs ds F _ ih => exact .bool b _ _ _ ih
  | str s vs ds F h _ ih => exact .str s _ _ _ h ih
  | none a c vs ds F _ ih => exact .none _ _ _ _ _ ih
  | sl b c cells ety e xs vs ds F1 F2 h0 h1 h2 h3 h4 h5 h6 hi _ _ ih2 =>
    have:=OwnL.sl b c cells ety e xs _ _ F1 _ h0 h1 h2 h3 h4 h5 h6 hi ih2
    simpa using this
theorem OwnL.length {w : World} {vs : List Value} {ds : List D} {F : List Nat} (h : OwnL w vs ds F) : vs.length = ds.length:=by
  induction h <;> simp_all
theorem OwnL.split {w : World} {vs : List Value} {ds : List D} {F : List Nat} (h : OwnL w vs ds F) : ∀ (n : Nat),∃ F1 F2,F = F1 ++ F2 ∧ OwnL w (vs.take n) (ds.take n) F1 ∧ OwnL w (vs.drop n) (ds.drop n) F2:=by
  induction h with
  | nil => intro n;exact ⟨[],[],rfl,by simpa using OwnL.nil,by simpa using OwnL.nil⟩
  | int k m vs ds F h1 h2 h ih =>
    intro n
    cases n with
    | zero => exact ⟨[],F,rfl,.nil,.int k m vs ds F h1 h2 h⟩
    | succ n => obtain ⟨F1,F2,e,g1,g2⟩:=ih n;exact ⟨F1,F2,e,.int k m _ _ _ h1 h2 g1,g2⟩
  | bool b vs ds F h ih =>
    intro n
    cases n with
    | zero => exact ⟨[],F,rfl,.nil,.bool b vs ds F h⟩
    | succ n => obtain ⟨F1,F2,e,g1,g2⟩:=ih n;exact ⟨F1,F2,e,.bool b _ _ _ g1,g2⟩
  | str s vs ds F h0 h ih =>
    intro n
    cases n with
    | zero => exact ⟨[],F,rfl,.nil,.str s vs ds F h0 h⟩
    | succ n => obtain ⟨F1,F2,e,g1,g2⟩:=ih n;exact ⟨F1,F2,e,.str s _ _ _ h0 g1,g2⟩
  | none a c vs ds F h ih =>
    intro n
    cases n with
    | zero => exact ⟨[],F,rfl,.nil,.none a c vs ds F h⟩
    | succ n => obtain ⟨F1,F2,e,g1,g2⟩:=ih n;exact ⟨F1,F2,e,.none _ _ _ _ _ g1,g2⟩
  | sl b c cells ety e xs vs ds F1 F2 h0 h1 h2 h3 h4 h5 h6 hi h ih1 ih2 =>
    intro n
    cases n with
    | zero => exact ⟨[],_,rfl,.nil,.sl b c cells ety e xs vs ds F1 F2 h0 h1 h2 h3 h4 h5 h6 hi h⟩
    | succ n =>
      obtain ⟨G1,G2,e',g1,g2⟩:=ih2 n
      exact ⟨b :: (F1 ++ G1),G2,by simp [e'],.sl b c cells ety e xs _ _ F1 G1 h0 h1 h2 h3 h4 h5 h6 hi g1,g2⟩
theorem OwnL.det {w : World} {vs : List Value} {ds : List D} {F : List Nat} (h : OwnL w vs ds F) : ∀ {F' : List Nat},OwnL w vs ds F' → F' = F:=by
  induction h with
  | nil => intro F' h';cases h';rfl
  | int k m vs ds F h1 h2 h ih => intro F' h';cases h' with|int _ _ _ _ _ _ _ h' => exact ih h'
  | bool b vs ds F h ih => intro F' h';cases h' with|bool _ _ _ _ h' => exact ih h'
  | str s vs ds F h0 h ih => intro F' h';cases h' with|str _ _ _ _ _ h' => exact ih h'
  | none a c vs ds F h ih =>
    intro F' h'
    generalize hv : (Value.slice a 0 c :: vs) = V at h'
    generalize hd : (D.sl [] :: ds) = DD at h'
    cases h' with
    | nil => cases hv
    | int _ _ _ _ _ _ _ _ => cases hd
    | bool _ _ _ _ _ => cases hd
    | str _ _ _ _ _ _ => cases hd
    | none a' c' vs' ds' F' h' =>
      simp only [List.cons.injEq,Value.slice.injEq,true_and,D.sl.injEq] at hv hd
      obtain ⟨_,rfl⟩:=hv
      subst hd
      exact ih h'
    | sl b' c' cells' ety' e' xs' vs' ds' G1 G2 k0 k1 k2 k3 k4 k5 k6 ki k =>
      simp only [List.cons.injEq,D.sl.injEq] at hd
      obtain ⟨rfl,_⟩:=hd
      simp at k0
  | sl b c cells ety e xs vs ds F1 F2 h0 h1 h2 h3 h4 h5 h6 hi h ih1 ih2 =>
    intro F' h'
    generalize hv : (Value.slice (some ⟨b,0,Option.none⟩) xs.length c :: vs) = V at h'
    generalize hd : (D.sl xs :: ds) = DD at h'
    cases h' with
    | nil => cases hv
    | int _ _ _ _ _ _ _ _ => cases hd
    | bool _ _ _ _ _ => cases hd
    | str _ _ _ _ _ _ => cases hd
    | none _ _ _ _ _ _ =>
      simp only [List.cons.injEq,D.sl.injEq] at hd
      obtain ⟨rfl,_⟩:=hd
      simp at h0
    | sl b' c' cells' ety' e' xs' vs' ds' G1 G2 k0 k1 k2 k3 k4 k5 k6 ki k =>
      simp only [List.cons.injEq,Value.slice.injEq,Option.some.injEq,Addr.mk.injEq,true_and,and_true,D.sl.injEq] at hv hd
      obtain ⟨⟨rfl,hl,rfl⟩,rfl⟩:=hv
      obtain ⟨rfl,rfl⟩:=hd
      rw [h1] at k1
      simp only [Option.some.injEq,Obj.cells.injEq,and_true] at k1
      obtain ⟨rfl,rfl⟩:=k1
      have hee : xs.length * e' = xs.length * e:=by
        cases xs with
        | nil => simp
        | cons x xs => rw [← h2 x (List.mem_cons_self ..),← k2 x (List.mem_cons_self ..)]
      rw [hee] at ki
      rw [ih1 ki,ih2 k]
def tv (v : Value) (F : List Nat) : Value:=.func (.func 0) #[] (v :: F.map (fun b : Nat => Value.int .i64 (b : Int))).toArray
def tvF : Value → List Nat
  | .func _ _ a => a.toList.tail.map fun x => match x with|.int _ n => n.toNat|_ => 0
  | _ => []
theorem tvF_tv (v : Value) (F : List Nat) : tvF (tv v F) = F:=by
  simp only [tv,tvF,List.tail_cons,List.map_map]
  conv => rhs;rw [← List.map_id F]
  apply List.map_congr_left
  intro b _
  simp
theorem tv_inj {u v : Value} {F G : List Nat} (h : tv u F = tv v G) : u = v ∧ F = G:=by
  have h2:=congrArg tvF h
  rw [tvF_tv,tvF_tv] at h2
  refine ⟨?_,h2⟩
  simp only [tv,Value.func.injEq,true_and] at h
  have h3:=congrArg (fun a : Array Value => a.toList.head?) h
  simpa using h3
inductive A where
  | otr (i : Nat)
  | any
  | d (o : Bool) (x : D)
  | ptr (i off : Nat)
  | osl (i : Nat)
  | optr (i j e off : Nat)
  | ep (ds : List D) (off : Nat)
  | fn (f : FuncId) (cap : List A)
  | agg (xs : List A)
  | tup (xs : List A)
  | opt (g : Bool) (x : A)
  | nil
  | pin (i : Nat) (u : Value)
instance : Inhabited A:=⟨.any⟩
mutual
def VSim (w : World) (ok : Nat → Prop) (lo : Nat) (β : List Value) : A → Value → Prop
  | .any,_ => True
  | .d false x,v => Rep w ok v x
  | .d true x,v => ∃ F,OwnL w [v] [x] F ∧ F.Nodup ∧ ∀ b,b ∈ F → ok b ∧ lo ≤ b
  | .ptr i off,v => ∃ b,β[i]? = some (.pointer (some ⟨b,0,none⟩)) ∧ v = .pointer (some ⟨b,off,none⟩)
  | .osl i,v => β[i]? = some v
  | .otr i,v => (∃ F,β[i]? = some (tv v F)) ∧ v.oneCell' = true
  | .optr i j e off,v => ∃ b n c,β[i]? = some (.slice (some ⟨b,0,none⟩) n c) ∧ v = .pointer (some ⟨b,j * e + off,none⟩)
  | .ep ds off,v => ∃ b o us,v = .pointer (some ⟨b,o + off,none⟩) ∧ ok b ∧ (∀ i u,us[i]? = some u → w.cell? ⟨b,o + i,none⟩ = some u) ∧ RepL w ok us ds
  | .fn f cap,v => ∃ vs : List Value,v = .func (.func f) #[] vs.toArray ∧ VSimL w ok lo β cap vs
  | .agg xs,v => ∃ vs : List Value,v = .agg vs.toArray ∧ VSimL w ok lo β xs vs
  | .tup xs,v => ∃ vs : List Value,v = .tuple vs.toArray ∧ VSimL w ok lo β xs vs
  | .opt g x,v => (g = true → VSim w ok lo β x v) ∧ (g = false → v = undef)
  | .nil,v => v = .slice none 0 0
  | .pin i u,_ => β[i]? = some u
def VSimL (w : World) (ok : Nat → Prop) (lo : Nat) (β : List Value) : List A → List Value → Prop
  | [],[] => True
  | x :: xs,v :: vs => VSim w ok lo β x v ∧ VSimL w ok lo β xs vs
  | [],_ :: _ => False
  | _ :: _,[] => False
end
mutual
def A.free (p : Nat → Bool) : A → Bool
  | .any => true
  | .d _ _ => true
  | .ptr i _ => p i
  | .osl i => p i
  | .otr i => p i
  | .optr i _ _ _ => p i
  | .ep _ _ => true
  | .fn _ cap => A.freeL p cap
  | .agg xs => A.freeL p xs
  | .tup xs => A.freeL p xs
  | .opt _ x => A.free p x
  | .nil => true
  | .pin i _ => p i
def A.freeL (p : Nat → Bool) : List A → Bool
  | [] => true
  | x :: xs => A.free p x && A.freeL p xs
end
mutual
theorem VSim.move {w w' : World} {ok ok' : Nat → Prop} {lo lo' : Nat} {β β' : List Value} {p : Nat → Bool} (hm : ∀ b,ok b → ok' b ∧ w'.heap[b]? = w.heap[b]?) (hlo : lo' ≤ lo)
    (hβ : ∀ i u,p i = true → β[i]? = some u → β'[i]? = some u) : ∀ {x : A} {v : Value},x.free p = true → VSim w ok lo β x v → VSim w' ok' lo' β' x v
  | .any,_,_,_ => by simp [VSim]
  | .d false x,v,_,h => by
    simp only [VSim] at h ⊢
    exact h.move hm
  | .d true x,v,_,h => by
    simp only [VSim] at h ⊢
    obtain ⟨F,h1,h2,h3⟩:=h
    exact ⟨F,h1.move (fun b hb => (hm b (h3 b hb).1).2),h2,fun b hb => ⟨(hm b (h3 b hb).1).1,Nat.le_trans hlo (h3 b hb).2⟩⟩
  | .ptr i off,v,hf,h => by
    simp only [VSim] at h ⊢
    obtain ⟨b,h1,h2⟩:=h
    exact ⟨b,hβ i _ (by simpa [A.free] using hf) h1,h2⟩
  | .osl i,v,hf,h => by
    simp only [VSim] at h ⊢
    exact hβ i _ (by simpa [A.free] using hf) h
  | .otr i,v,hf,h => by
    simp only [VSim] at h ⊢
    obtain ⟨⟨F,h1⟩,h2⟩:=h
    exact ⟨⟨F,hβ i _ (by simpa [A.free] using hf) h1⟩,h2⟩
  | .optr i j e off,v,hf,h => by
    simp only [VSim] at h ⊢
    obtain ⟨b,n,c,h1,h2⟩:=h
    exact ⟨b,n,c,hβ i _ (by simpa [A.free] using hf) h1,h2⟩
  | .ep ds off,v,_,h => by
    simp only [VSim] at h ⊢
    obtain ⟨b,o,us,h1,h2,h3,h4⟩:=h
    exact ⟨b,o,us,h1,(hm b h2).1,fun i u hu => (cell_same (hm b h2).2).trans (h3 i u hu),h4.move hm⟩
  | .fn f cap,v,hf,h => by
    simp only [VSim] at h ⊢
    obtain ⟨vs,h1,h2⟩:=h
    exact ⟨vs,h1,VSimL.move hm hlo hβ (by simpa [A.free] using hf) h2⟩
  | .agg xs,v,hf,h => by
    simp only [VSim] at h ⊢
    obtain ⟨vs,h1,h2⟩:=h
    exact ⟨vs,h1,VSimL.move hm hlo hβ (by simpa [A.free] using hf) h2⟩
  | .tup xs,v,hf,h => by
    simp only [VSim] at h ⊢
    obtain ⟨vs,h1,h2⟩:=h
    exact ⟨vs,h1,VSimL.move hm hlo hβ (by simpa [A.free] using hf) h2⟩
  | .opt g x,v,hf,h => by
    simp only [VSim] at h ⊢
    exact ⟨fun hg => VSim.move hm hlo hβ (by simpa [A.free] using hf) (h.1 hg),h.2⟩
  | .nil,v,_,h => by
    simp only [VSim] at h ⊢
    exact h
  | .pin i u,v,hf,h => by
    simp only [VSim] at h ⊢
    exact hβ i _ (by simpa [A.free] using hf) h
theorem VSimL.move {w w' : World} {ok ok' : Nat → Prop} {lo lo' : Nat} {β β' : List Value} {p : Nat → Bool} (hm : ∀ b,ok b → ok' b ∧ w'.heap[b]? = w.heap[b]?) (hlo : lo' ≤ lo)
    (hβ : ∀ i u,p i = true → β[i]? = some u → β'[i]? = some u) : ∀ {xs : List A} {vs : List Value},A.freeL p xs = true → VSimL w ok lo β xs vs → VSimL w' ok' lo' β' xs vs
  | [],[],_,_ => by simp [VSimL]
  | x :: xs,v :: vs,hf,h => by
    simp only [VSimL] at h ⊢
    simp only [A.freeL,Bool.and_eq_true] at hf
    exact ⟨VSim.move hm hlo hβ hf.1 h.1,VSimL.move hm hlo hβ hf.2 h.2⟩
  | [],_ :: _,_,h => by simp [VSimL] at h
  | _ :: _,[],_,h => by simp [VSimL] at h
end
theorem VSimL.length {w : World} {ok : Nat → Prop} {lo : Nat} {β : List Value} : ∀ {xs : List A} {vs : List Value},VSimL w ok lo β xs vs → vs.length = xs.length
  | [],[],_ => rfl
  | _ :: _,_ :: _,h => by simp only [VSimL] at h;simp [VSimL.length h.2]
  | [],_ :: _,h => by simp [VSimL] at h
  | _ :: _,[],h => by simp [VSimL] at h
theorem VSimL.get {w : World} {ok : Nat → Prop} {lo : Nat} {β : List Value} : ∀ {xs : List A} {vs : List Value},VSimL w ok lo β xs vs → ∀ {i : Nat} {x : A},xs[i]? = some x → ∃ v,vs[i]? = some v ∧ VSim w ok lo β x v
  | [],[],_,i,x,hx => by simp at hx
  | y :: xs,v :: vs,h,0,x,hx => by
    simp only [VSimL] at h
    simp only [getElem?_cons_zero,Option.some.injEq] at hx ⊢
    exact ⟨v,rfl,hx ▸ h.1⟩
  | y :: xs,v :: vs,h,i + 1,x,hx => by
    simp only [VSimL] at h
    simp only [getElem?_cons_succ] at hx ⊢
    exact VSimL.get h.2 hx
  | [],_ :: _,h,_,_,_ => by simp [VSimL] at h
  | _ :: _,[],h,_,_,_ => by simp [VSimL] at h
theorem VSimL.of_get {w : World} {ok : Nat → Prop} {lo : Nat} {β : List Value} : ∀ {xs : List A} {vs : List Value},vs.length = xs.length → (∀ (i : Nat) (x : A) (v : Value),xs[i]? = some x → vs[i]? = some v → VSim w ok lo β x v) → VSimL w ok lo β xs vs
  | [],[],_,_ => by simp [VSimL]
  | x :: xs,v :: vs,hl,h => by
    simp only [VSimL]
    exact ⟨h 0 x v rfl rfl,VSimL.of_get (by simpa using hl) (fun i x v h1 h2 => h (i + 1) x v (by simpa using h1) (by simpa using h2))⟩
  | [],_ :: _,hl,_ => by simp at hl
  | _ :: _,[],hl,_ => by simp at hl
theorem VSimL.app {w : World} {ok : Nat → Prop} {lo : Nat} {β : List Value} : ∀ {xs : List A} {vs : List Value} {xs' : List A} {vs' : List Value},VSimL w ok lo β xs vs → VSimL w ok lo β xs' vs' → VSimL w ok lo β (xs ++ xs') (vs ++ vs')
  | [],[],_,_,_,h => h
  | _ :: _,_ :: _,_,_,h,h' => by simp only [VSimL,List.cons_append] at h ⊢;exact ⟨h.1,VSimL.app h.2 h'⟩
  | [],_ :: _,_,_,h,_ => by simp [VSimL] at h
  | _ :: _,[],_,_,h,_ => by simp [VSimL] at h
theorem VSimL.take {w : World} {ok : Nat → Prop} {lo : Nat} {β : List Value} : ∀ {xs : List A} {vs : List Value} (n : Nat),VSimL w ok lo β xs vs → VSimL w ok lo β (xs.take n) (vs.take n)
  | [],[],n,_ => by simp [VSimL]
  | _ :: _,_ :: _,0,_ => by simp [VSimL]
  | _ :: _,_ :: _,n + 1,h => by simp only [VSimL,List.take_succ_cons] at h ⊢;exact ⟨h.1,VSimL.take n h.2⟩
  | [],_ :: _,_,h => by simp [VSimL] at h
  | _ :: _,[],_,h => by simp [VSimL] at h
theorem VSimL.drop {w : World} {ok : Nat → Prop} {lo : Nat} {β : List Value} : ∀ {xs : List A} {vs : List Value} (n : Nat),VSimL w ok lo β xs vs → VSimL w ok lo β (xs.drop n) (vs.drop n)
  | [],[],n,_ => by simp [VSimL]
  | _ :: _,_ :: _,0,h => h
  | _ :: _,_ :: _,n + 1,h => by simp only [VSimL,List.drop_succ_cons] at h ⊢;exact VSimL.drop n h.2
  | [],_ :: _,_,h => by simp [VSimL] at h
  | _ :: _,[],_,h => by simp [VSimL] at h
theorem VSimL.set {w : World} {ok : Nat → Prop} {lo : Nat} {β : List Value} {y : A} {u : Value} (hy : VSim w ok lo β y u) : ∀ {xs : List A} {vs : List Value} (n : Nat),VSimL w ok lo β xs vs → VSimL w ok lo β (xs.set n y) (vs.set n u)
  | [],[],n,_ => by simp [VSimL]
  | _ :: _,_ :: _,0,h => by simp only [VSimL,List.set_cons_zero] at h ⊢;exact ⟨hy,h.2⟩
  | _ :: _,_ :: _,n + 1,h => by simp only [VSimL,List.set_cons_succ] at h ⊢;exact ⟨h.1,VSimL.set hy n h.2⟩
  | [],_ :: _,_,h => by simp [VSimL] at h
  | _ :: _,[],_,h => by simp [VSimL] at h
mutual
theorem A.free_true : ∀ x : A,x.free (fun _ => true) = true
  | .any|.d _ _|.ptr _ _|.osl _|.otr _|.optr _ _ _ _|.ep _ _|.nil|.pin _ _ => rfl
  | .fn _ cap => by simp only [A.free];exact A.freeL_true cap
  | .agg xs => by simp only [A.free];exact A.freeL_true xs
  | .tup xs => by simp only [A.free];exact A.freeL_true xs
  | .opt _ x => by simp only [A.free];exact A.free_true x
theorem A.freeL_true : ∀ xs : List A,A.freeL (fun _ => true) xs = true
  | [] => rfl
  | x :: xs => by simp only [A.freeL,Bool.and_eq_true];exact ⟨A.free_true x,A.freeL_true xs⟩
end
theorem VSim.read {w : World} {ok : Nat → Prop} {lo : Nat} {β : List Value} {o : Bool} {x : D} {v : Value} (h : VSim w ok lo β (.d o x) v) : Rep w ok v x:=by
  cases o with
  | false => simpa only [VSim] using h
  | true =>
    simp only [VSim] at h
    obtain ⟨F,h1,_,h3⟩:=h
    exact (h1.rep (fun b hb => (h3 b hb).1)).1
end Go.Proofs.YtlddcimpdkcgeaaGreatDoor.Sym
