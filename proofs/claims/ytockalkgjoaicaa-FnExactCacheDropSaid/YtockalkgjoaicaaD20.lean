/- What the program strikes out of a cache. -/
import Derived.Test.YtockalkgjoaicaaD19
set_option linter.unusedVariables false
set_option linter.unusedSimpArgs false
set_option maxHeartbeats 4000000
namespace Go.Proofs.Ytockalkgjoaicaa
open Go Go.RowKit Sym
/-- Each element owns its texts. -/
def OwnG (w : World) : List (Policy × Value) → List Nat → Prop
  | [],F => F = []
  | g :: gs,F => ∃ F1 F2,F = F1 ++ F2 ∧ OwnL w [g.2] [.sl (encStr g.1.mx)] F1 ∧ D.OkL g.1.enc ∧ OwnG w gs F2
theorem OwnG.of {w : World} : ∀ {ps : List Policy} {vs : List Value} {F : List Nat},OwnL w vs (encPs ps).flatten F → ∃ gs,gs.map (·.1) = ps ∧ vs = gcells gs ∧ OwnG w gs F
  | [],vs,F,h => by
    obtain ⟨rfl,rfl⟩:=own_nil_inv h
    exact ⟨[],rfl,rfl,rfl⟩
  | p :: ps,vs,F,h => by
    have hfl : (encPs (p :: ps)).flatten = p.enc ++ (encPs ps).flatten:=by simp [encPs]
    rw [hfl] at h
    obtain ⟨F1,F2,rfl,g1,g2⟩:=h.split 4
    rw [List.take_left' (encP_length p)] at g1
    rw [List.drop_left' (encP_length p)] at g2
    obtain ⟨gs,e1,e2,e3⟩:=OwnG.of g2
    have hok : D.OkL p.enc:=(g1.rep (ok:=fun _ => True) (fun _ _ => trivial)).ok
    obtain ⟨u,e4,e5⟩:=own4P g1
    refine ⟨(p,u) :: gs,by simp [e1],?_,F1,F2,rfl,e5,hok,e3⟩
    rw [← List.take_append_drop 4 vs,e4,e2]
    simp [gcells,pvs]
theorem OwnG.mk {w : World} : ∀ {gs : List (Policy × Value)} {F : List Nat},OwnG w gs F → OwnL w (gcells gs) (encPs (gs.map (·.1))).flatten F
  | [],F,h => by
    have : F = []:=h
    subst this
    exact .nil
  | g :: gs,F,⟨F1,F2,hF,h1,h2,h3⟩ => by
    subst hF
    have e1 : gcells (g :: gs) = [.string g.1.dom,.int .i64 g.1.mode,g.2,.int .i64 g.1.til] ++ gcells gs:=by simp [gcells,pvs]
    have e2 : (encPs ((g :: gs).map (·.1))).flatten = g.1.enc ++ (encPs (gs.map (·.1))).flatten:=by simp [encPs]
    rw [e1,e2]
    rw [Policy.enc_eq] at h2
    simp only [D.OkL,D.Ok,and_true] at h2
    exact (own4P_mk h1 h2.1 h2.2.1.1 h2.2.1.2 h2.2.2.2.1 h2.2.2.2.2).app h3.mk
theorem OwnG.filter {w : World} (p : Policy × Value → Bool) : ∀ {gs : List (Policy × Value)} {F : List Nat},OwnG w gs F → ∃ F',OwnG w (gs.filter p) F' ∧ F'.Sublist F
  | [],F,h => ⟨[],rfl,List.nil_sublist _⟩
  | g :: gs,F,⟨F1,F2,hF,h1,h2,h3⟩ => by
    subst hF
    obtain ⟨F',g1,g2⟩:=OwnG.filter p h3
    cases hp : p g with
    | true =>
      rw [List.filter_cons_of_pos hp]
      exact ⟨F1 ++ F',⟨F1,F',rfl,h1,h2,g1⟩,(List.Sublist.refl F1).append g2⟩
    | false =>
      rw [List.filter_cons_of_neg (by rw [hp];decide)]
      exact ⟨F',g1,g2.trans (List.sublist_append_right _ _)⟩
theorem OwnG.move {w w' : World} : ∀ {gs : List (Policy × Value)} {F : List Nat},OwnG w gs F → (∀ b,b ∈ F → w'.heap[b]? = w.heap[b]?) → OwnG w' gs F
  | [],F,h,_ => h
  | g :: gs,F,⟨F1,F2,hF,h1,h2,h3⟩,hm => by
    subst hF
    exact ⟨F1,F2,rfl,h1.move (fun b hb => hm b (by simp [hb])),h2,h3.move (fun b hb => hm b (by simp [hb]))⟩
theorem OwnG.slice {w : World} : ∀ {gs : List (Policy × Value)} {F : List Nat},OwnG w gs F → ∀ j (h : j < gs.length),∃ ua ul uc,gs[j].2 = .slice ua ul uc
  | g :: gs,F,⟨F1,F2,hF,h1,h2,h3⟩,0,_ => by
    obtain ⟨a,c,h,_⟩:=(h1.rep (ok:=fun _ => True) (fun _ _ => trivial)).1.cells
    exact ⟨a,_,c,h⟩
  | g :: gs,F,⟨F1,F2,hF,h1,h2,h3⟩,j + 1,h => h3.slice j (by simpa using h)
/-- A row that is owned from lo on. -/
def RowG (w : World) (lo : Nat) (ad : Option Addr) (c : Nat) (gs : List (Policy × Value)) : Prop :=
  (∀ j (h : j < gs.length),∃ ua ul uc,gs[j].2 = .slice ua ul uc) ∧ gs.length ≤ c ∧ gs.length ≤ 140737488355328 ∧ ∃ b ety cells F1,0 < gs.length → c ≤ maxLen ∧ ad = some ⟨b,0,none⟩ ∧ RowP w b ety cells gs ∧ cells.size = c * 4 ∧ OwnG w gs F1 ∧ (b :: F1).Nodup ∧ ∀ x,x ∈ b :: F1 → lo ≤ x ∧ x < w.heap.size
theorem rowG_of {w : World} {lo : Nat} {v : Value} {ps : List Policy} {F : List Nat} (h : OwnL w [v] [.sl (encPs ps)] F) (hn : F.Nodup) (hF : ∀ b,b ∈ F → lo ≤ b ∧ b < w.heap.size) :
    ∃ ad c gs,v = .slice ad ps.length c ∧ gs.map (·.1) = ps ∧ RowG w lo ad c gs:=by
  have hr:=(h.rep (ok:=fun _ => True) (fun _ _ => trivial)).1
  have hl : ps.length ≤ 140737488355328:=by have:=hr.ok;simp only [D.Ok,encPs_length] at this;exact this.1
  by_cases h0 : 0 < ps.length
  · obtain ⟨b,c,cells,ety,e,F1,rfl,rfl,h1,h2,h3,h4,h5,h6,h7⟩:=own_sl_inv h (by rw [encPs_length];exact h0)
    rw [encPs_length] at *
    have he : e = 4:=by
      obtain ⟨p,ps',rfl⟩ : ∃ p ps',ps = p :: ps':=by cases ps with
        | nil => simp at h0
        | cons p ps' => exact ⟨p,ps',rfl⟩
      exact (h2 p.enc (by simp [encPs])).symm
    subst he
    obtain ⟨gs,g1,g2,g3⟩:=OwnG.of h7
    have hgl : gs.length = ps.length:=by rw [← g1,List.length_map]
    have hsz : gs.length * 4 ≤ cells.size:=by rw [h5,hgl];exact Nat.mul_le_mul_right 4 h3
    refine ⟨_,c,gs,rfl,g1,g3.slice,by rw [hgl];exact h3,by omega,b,ety,cells,F1,fun _ => ⟨h4,rfl,⟨h1,hsz,fun j hj => ?_⟩,h5,g3,hn,hF⟩⟩
    rw [← g2,List.getElem?_take,if_pos (by rw [← hgl];exact hj),Array.getElem?_toList]
  · have : ps = []:=List.eq_nil_of_length_eq_zero (by omega)
    subst this
    obtain ⟨a,c,hv,_⟩:=hr.cells
    exact ⟨a,c,[],hv,rfl,fun j hj => by simp at hj,Nat.zero_le _,by simp,0,0,#[],[],fun h => by simp at h⟩
theorem clone_any (ps : List Policy) (h : ps.length + cntPs ps ≤ 1048576) (W : World) (ok : Nat → Prop) (v : Value) (hL : Laid W) (hok : ∀ b,ok b → b < W.heap.size) (hv : Rep W ok v (.sl (encPs ps))) :
    Calls Try.prog 15 #[v] W fun e w' => ∃ ad c gs,e = .returned (.slice ad ps.length c) ∧ gs.map (·.1) = ps ∧ RowG w' W.heap.size ad c gs ∧ Fr (fun _ => False) W w':=by
  refine ((cloneCache_ct ps h).2 W ok [v] hL hok (by simp only [VSimL,VSim,and_true];exact hv)).mono ?_
  rintro e w' ⟨v',rfl,hx,hvv⟩
  obtain ⟨F,g1,g2,g3⟩:=hvv
  obtain ⟨ad,c,gs,rfl,h1,h2⟩:=rowG_of (lo:=W.heap.size) g1 g2 (fun b hb => ⟨(g3 b hb).2,(g3 b hb).1.1⟩)
  exact ⟨ad,c,gs,rfl,h1,h2,hx⟩
theorem kept_stays (now : Int) (gs : List (Policy × Value)) : (stays now gs).map (·.1) = keptP (gs.map (·.1)) now:=by
  unfold stays keptP
  rw [List.filter_map]
  rfl
theorem drop_any (now : Int) (B lo c n : Nat) (ad : Option Addr) (gs : List (Policy × Value)) (w : World) (hn : gs.length = n) (hR : RowG w lo ad c gs) (hB : B < lo) (hlo : lo ≤ w.heap.size) (hc : w.cell? ⟨B,0,none⟩ = some (.int .i64 now)) :
    Calls Try.prog 14 #[.slice ad n c,.func (.func 16) #[] #[.pointer (some ⟨B,0,none⟩)]] w fun e w' => ∃ v,e = .returned v ∧ Fr (fun x => lo ≤ x) w w' ∧ ∃ F,OwnL w' [v] [.sl (encPs (keptP (gs.map (·.1)) now))] F ∧ F.Nodup ∧ ∀ x,x ∈ F → lo ≤ x ∧ x < w'.heap.size:=by
  obtain ⟨h1,h2,h3,b,ety,cells,F1,h4⟩:=hR
  have hb0 : 0 < n → lo ≤ b:=fun h0 => ((h4 (by omega)).2.2.2.2.2.2 b (by simp)).1
  -- where there is none, any block will do
  by_cases h0 : 0 < n
  · obtain ⟨k1,k2,k3,k4,k5,k6,k7⟩:=h4 (by omega)
    refine (dfn_any gs now B b c n ad ety cells w hn (by omega) (by omega) h1 (fun _ => ⟨k2,k3⟩) (by omega) (by have:=hb0 h0;omega) hc).mono ?_
    rintro e w' ⟨rfl,hf,hrow⟩
    obtain ⟨cells',c1,c2,c3,c4⟩:=hrow h0
    have hfr : Fr (fun x => lo ≤ x) w w':=⟨hf.os,hf.tape,hf.output,hf.size,fun x hx hnx => hf.block x hx (fun e => hnx (by rw [e.1];exact hb0 h0))⟩
    refine ⟨_,rfl,hfr,?_⟩
    simp only [List.nodup_cons] at k6
    obtain ⟨F',g1,g2⟩:=OwnG.filter (fun g => decide (now ≤ g.1.til)) k5
    have g3 : OwnG w' (stays now gs) F':=g1.move fun x hx => by
      have hx1:=g2.subset hx
      exact hf.block x (k7 x (by simp [hx1])).2 (fun e => k6.1 (by rw [← e.1];exact hx1))
    have hsl : (stays now gs).length ≤ gs.length:=List.length_filter_le _ _
    rw [← kept_stays]
    have hel : (encPs ((stays now gs).map (·.1))).length = (stays now gs).length:=by rw [encPs_length,List.length_map]
    by_cases hk : (stays now gs).length = 0
    · have hnil : stays now gs = []:=List.eq_nil_of_length_eq_zero hk
      rw [hnil]
      exact ⟨[],.none _ _ [] [] [] .nil,List.nodup_nil,fun x hx => by cases hx⟩
    · refine ⟨b :: F',?_,?_,fun x hx => ?_⟩
      · have:=OwnL.sl (w:=w') b c cells' ety 4 (encPs ((stays now gs).map (·.1))) [] [] F' [] (by rw [hel];omega) c2 (encPs_each _) (by rw [hel];omega) k1 (by rw [c1,k4]) (by rw [hel];omega) ?_ .nil
        · rw [hel,k2] at *
          simpa using this
        · rw [hel]
          have : cells'.toList.take ((stays now gs).length * 4) = gcells (stays now gs):=by
            refine List.ext_getElem? fun t => ?_
            rw [List.getElem?_take]
            by_cases ht : t < (stays now gs).length * 4
            · rw [if_pos ht,Array.getElem?_toList,c4 t ht]
            · rw [if_neg ht,List.getElem?_eq_none (by rw [gcells_len];omega)]
          rw [this]
          exact g3.mk
      · exact List.nodup_cons.2 ⟨fun hb => k6.1 (g2.subset hb),k6.2.sublist g2⟩
      · rcases List.mem_cons.1 hx with rfl|hx
        · exact ⟨(k7 x (by simp)).1,Nat.lt_of_lt_of_le (k7 x (by simp)).2 hf.size⟩
        · have:=k7 x (by simp [g2.subset hx])
          exact ⟨this.1,Nat.lt_of_lt_of_le this.2 hf.size⟩
  · have hg : gs = []:=List.eq_nil_of_length_eq_zero (by omega)
    subst hg
    refine (dfn_any [] now B (B + 1) c n ad 0 #[] w hn (by omega) (by omega) h1 (fun h => absurd h h0) (by omega) (by omega) hc).mono ?_
    rintro e w' ⟨rfl,hf,_⟩
    exact ⟨_,rfl,⟨hf.os,hf.tape,hf.output,hf.size,fun x hx _ => hf.block x hx (fun e => h0 e.2)⟩,[],.none _ _ [] [] [] .nil,List.nodup_nil,fun x hx => by cases hx⟩
set_option maxRecDepth 100000 in
theorem drop2_ct (ps : List Policy) (now : Int) (h : ps.length + cntPs ps ≤ 1048576) : Ct Try.prog 7 [.d false (.sl (encPs ps)),.d false (.int .i64 now)] (.d true (.sl (encPs (keptP ps now)))):=by
  refine ⟨⟨_,Try.func7,rfl,rfl⟩,fun w ok vs hL hok hv => ?_⟩
  match vs,hv with
  | [v1,v2],hv =>
    simp only [VSimL,and_true] at hv
    obtain ⟨hv1,hv2⟩:=hv
    have hv2:=(vint hv2).1
    subst hv2
    have hv1 : Rep w ok v1 (.sl (encPs ps)):=hv1
    have HC : Hid (∀ o,Calls Try.prog 15 #[v1] (w.alloc o) fun e w' => ∃ ad c gs,e = .returned (.slice ad ps.length c) ∧ gs.map (·.1) = ps ∧ RowG w' (w.heap.size + 1) ad c gs ∧ Fr (fun _ => False) (w.alloc o) w'):=fun o => by
      have:=clone_any ps h (w.alloc o) ok v1 (hL.fr (Fr.alloc (B:=fun _ => False) w o) (fun _ h => h.elim)) (fun b hb => by have:=hok b hb;simp;omega) (hv1.move fun b hb => ⟨hb,Below.heap_alloc w _ b (hok b hb)⟩)
      simpa using this
    have HR : Hid (∀ (w' : World) (v : Value) (F : List Nat),Fr (fun _ => False) w w' → OwnL w' [v] [.sl (encPs (keptP ps now))] F → F.Nodup → (∀ x,x ∈ F → w.heap.size + 1 ≤ x ∧ x < w'.heap.size) → ∃ v',Ending.returned v = .returned v' ∧ Ext w w' ∧ VSim w' (fun b => b < w'.heap.size ∧ (ok b ∨ w.heap.size ≤ b)) w.heap.size [] (.d true (.sl (encPs (keptP ps now)))) v') :=
      fun w' v F h1 h2 h3 h4 => ⟨v,rfl,h1,F,h2,h3,fun x hx => ⟨⟨(h4 x hx).2,.inr (by have:=(h4 x hx).1;omega)⟩,by have:=(h4 x hx).1;omega⟩⟩
    clear hv1 hL hok
    show Calls Try.prog 7 #[v1,.int .i64 now] w _
    go_enter Try.func7,Try.ntmps7
    go_wp2_with fail
    go_at_call 15
    refine (HC.out _).mono ?_
    rintro e w2 ⟨ad,c,gs,rfl,hgs,hrow,hf2⟩
    have hgl : gs.length = ps.length:=by rw [← hgs,List.length_map]
    have hx2:=hf2.block w.heap.size (by simp) (fun h => h)
    rw [heap_alloc_new] at hx2
    have hcB : w2.cell? ⟨w.heap.size,0,none⟩ = some (.int .i64 now):=cell_of hx2 rfl
    have hsz:=hf2.size
    have HD:=drop_any now w.heap.size (w.heap.size + 1) c ps.length ad gs w2 hgl hrow (by omega) (by simpa using hsz) hcB
    go_wp2_with fail
    go_at_call 14
    refine HD.mono ?_
    rintro e w3 ⟨v3,rfl,hf3,F,ho3,hn3,hF3⟩
    go_wp2
    go_ret
    rw [hgs] at ho3
    exact HR.out w3 v3 F (((Fr.alloc w _).trans hf2 (fun _ _ h => h)).trans hf3 (fun x hx hl => by omega)) ho3 hn3 hF3
  | [],hv => simp [VSimL] at hv
  | [_],hv => simp [VSimL] at hv
  | _ :: _ :: _ :: _,hv => simp [VSimL] at hv
end Go.Proofs.Ytockalkgjoaicaa
