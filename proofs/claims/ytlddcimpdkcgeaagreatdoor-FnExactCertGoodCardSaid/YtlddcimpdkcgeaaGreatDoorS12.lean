/- From a function's text to its contract. -/
import Derived.Test.YtlddcimpdkcgeaaGreatDoorS11
import Derived.KernelRfl
set_option linter.unusedVariables false
set_option linter.unusedSimpArgs false
namespace Go.Proofs.YtlddcimpdkcgeaaGreatDoor.Sym
open Go.RowKit
structure FnOk (P : Program) (fn : Func) (n : Nat) (keep : Nat → List Nat) (ac : AC) (rs : List RV) : Prop where
  nt : fn.ntmps = n
  ac : fn.body.map (toAC P n keep) = some ac
  lex : fn.body.map (lexOk keep) = some true
  rs : fn.results.toList.map (toRV P) = rs
  name : (fn.name == "runtime.NumGoroutine") = false
theorem gnot1 (b : Bool) : (b = false → (!b) = true) = True:=by cases b <;> simp
theorem gnot3 (b : Bool) : ((!b) = false → b = true) = True:=by cases b <;> simp
theorem gnot4 (b : Bool) : ((!b) = true → b = false) = True:=by cases b <;> simp
theorem gnot2 (b : Bool) : (b = true → (!b) = false) = True:=by cases b <;> simp
theorem nbeq (a b : Nat) : Nat.beq a b = (a == b):=by
  by_cases h : a = b
  · subst h;simp
  · rw [beq_no h];simp [h]
theorem nble (a b : Nat) : Nat.ble a b = decide (a ≤ b):=by
  cases h : Nat.ble a b with
  | true => simp [Nat.le_of_ble_eq_true h]
  | false => simp;exact Nat.lt_of_not_le (fun hle => by rw [Nat.ble_eq_true_of_le hle] at h;cases h)
theorem nblt (a b : Nat) : Nat.blt a b = decide (a < b):=by unfold Nat.blt;rw [nble];rfl
mutual
def D.Ok : D → Prop
  | .int k n => k.min ≤ n ∧ n ≤ k.max
  | .bool _ => True
  | .str s => s.size ≤ 4611686018427387904
  | .sl xs => xs.length ≤ 140737488355328 ∧ D.OkLL xs
  | .ifc _ => True
def D.OkL : List D → Prop
  | [] => True
  | d :: ds => D.Ok d ∧ D.OkL ds
def D.OkLL : List (List D) → Prop
  | [] => True
  | l :: ls => D.OkL l ∧ D.OkLL ls
end
mutual
def A.Ok : A → Prop
  | .d _ x => D.Ok x
  | .ep ds _ => D.OkL ds
  | .fn _ xs => A.OkL xs
  | .agg xs => A.OkL xs
  | .tup xs => A.OkL xs
  | _ => True
def A.OkL : List A → Prop
  | [] => True
  | x :: xs => A.Ok x ∧ A.OkL xs
end
theorem okL_of : ∀ {ds : List D},(∀ (i : Nat) (d : D),ds[i]? = some d → D.Ok d) → D.OkL ds
  | [],_ => by simp [D.OkL]
  | d :: ds,h => by simp only [D.OkL];exact ⟨h 0 d rfl,okL_of (fun i x hx => h (i + 1) x (by simpa using hx))⟩
theorem okLL_of : ∀ {xs : List (List D)},(∀ (j : Nat) (ds : List D),xs[j]? = some ds → D.OkL ds) → D.OkLL xs
  | [],_ => by simp [D.OkLL]
  | l :: ls,h => by simp only [D.OkLL];exact ⟨h 0 l rfl,okLL_of (fun j x hx => h (j + 1) x (by simpa using hx))⟩
theorem Rep.ok {w : World} {ok : Nat → Prop} {v : Value} {x : D} (h : Rep w ok v x) : D.Ok x:=by
  induction h with
  | int k n h1 h2 => simp only [D.Ok];exact ⟨h1,h2⟩
  | bool b => simp [D.Ok]
  | str s h => simp only [D.Ok];exact h
  | ifc0 => simp [D.Ok]
  | ifc1 => simp [D.Ok]
  | sl xs a c U e h1 h2 h3 h4 h5 ih => simp only [D.Ok];exact ⟨h2,okLL_of (fun j ds hj => okL_of (fun i d hi => ih j ds hj i d hi))⟩
theorem RepL.ok {w : World} {ok : Nat → Prop} : ∀ {vs : List Value} {ds : List D},RepL w ok vs ds → D.OkL ds
  | [],[],_ => by simp [D.OkL]
  | _ :: _,_ :: _,h => by simp only [D.OkL];exact ⟨h.1.ok,RepL.ok h.2⟩
mutual
theorem VSim.ok {w : World} {ok : Nat → Prop} {lo : Nat} {β : List Value} : ∀ {x : A} {v : Value},VSim w ok lo β x v → A.Ok x
  | .d o x,v,h => by simp only [A.Ok];exact h.read.ok
  | .ep ds off,v,h => by simp only [A.Ok];obtain ⟨_,_,_,_,_,_,h⟩:=h;exact h.ok
  | .fn f xs,v,h => by simp only [A.Ok];obtain ⟨vs,_,h⟩:=h;exact VSimL.ok h
  | .agg xs,v,h => by simp only [A.Ok];obtain ⟨vs,_,h⟩:=h;exact VSimL.ok h
  | .tup xs,v,h => by simp only [A.Ok];obtain ⟨vs,_,h⟩:=h;exact VSimL.ok h
  | .any,_,_|.ptr _ _,_,_|.osl _,_,_|.otr _,_,_|.optr _ _ _ _,_,_|.opt _ _,_,_|.pin _ _,_,_|.nil,_,_ => by simp [A.Ok]
theorem VSimL.ok {w : World} {ok : Nat → Prop} {lo : Nat} {β : List Value} : ∀ {xs : List A} {vs : List Value},VSimL w ok lo β xs vs → A.OkL xs
  | [],[],_ => by simp [A.OkL]
  | x :: xs,v :: vs,h => by simp only [VSimL] at h;simp only [A.OkL];exact ⟨VSim.ok h.1,VSimL.ok h.2⟩
  | [],_ :: _,h => by simp [VSimL] at h
  | _ :: _,[],h => by simp [VSimL] at h
end
section
variable {P : Program}
theorem FnOk.ct {fn : Func} {n : Nat} {keep : Nat → List Nat} {ac : AC} {rs : List RV} (h : FnOk P fn n keep ac rs) (hm : P.follows .mixedOrders = true) {f : FuncId} (hf : P.funcs[f]? = some fn) {As : List A} {r : A} (hAs : As.length ≤ n)
    (hr : r.free (fun _ => false) = true) (hw : A.OkL As → awp P ac (Post rs r) ⟨enumT 0 As,[]⟩) : Ct P f As r:=by
  obtain ⟨code,hb,hac⟩:=Option.map_eq_some_iff.1 h.ac
  have hlex:=h.lex
  rw [hb] at hlex
  have hctf : CtF P f:=⟨fn,hf,h.name,by rw [hb];rfl⟩
  exact ⟨hctf,fun w ok vs hL hok hv => (ct_of hm keep hf h.name hb h.nt (by simpa using hlex) hac h.rs hAs hr (hw hv.ok)).2 w ok vs hL hok hv⟩
theorem s_seq {x y : AC} {Q : Ex → St → Prop} {σ : St} (h : ∀ K : St → Prop,(∀ σ',awp P y Q σ' → K σ') → awp P x (thenK K Q) σ) : awp P (.seq x y) Q σ:=⟨_,fun σ' h => ⟨σ',.inl rfl,h⟩,h (awp P y Q) (fun _ h => h)⟩
theorem s_region {ops : List G} {keep : List Nat} {Q : Ex → St → Prop} {σ : St} (h : aops P ops (fun σ' => Q .norm (σ'.keep keep)) σ) : awp P (.region ops keep) Q σ:=h
theorem s_op {g : G} {r : List G} {K : St → Prop} {σ : St} (h : ∀ K' : St → Prop,(∀ σ',aops P r K σ' → K' σ') → gop P σ K' g) : aops P (g :: r) K σ:=h _ (fun _ h => h)
theorem s_ops {K : St → Prop} {σ : St} (h : K σ) : aops P [] K σ:=h
theorem s_draw {ops : List G} {keep : List Nat} {Q : Ex → St → Prop} {σ : St} (h : aopsQ P ops (fun σ' => Q .norm (σ'.keep keep)) σ) : awp P (.draw ops keep) Q σ:=h
theorem s_tree {t : Tr} {keep : List Nat} {Q : Ex → St → Prop} {σ : St} (h : awpT P (fun σ' => Q .norm (σ'.keep keep)) t 0 [] σ) : awp P (.tree t keep) Q σ:=h
theorem s_treew (ws : List Nat) {t : Tr} {keep : List Nat} {Q : Ex → St → Prop} {σ : St} (h : awpT P (fun σ' => Q .norm (σ'.keep keep)) t 0 [] σ) : awp P (.tree t keep) Q σ:=h
theorem awp_skip {Q : Ex → St → Prop} {σ : St} : awp P .skip Q σ = Q .norm σ:=rfl
theorem awp_ret {Q : Ex → St → Prop} {σ : St} : awp P .ret Q σ = Q .ret σ:=rfl
theorem awp_exit {id : Nat} {Q : Ex → St → Prop} {σ : St} : awp P (.exit id) Q σ = Q (.exit id) σ:=rfl
theorem awp_block {id : Nat} {x : AC} {Q : Ex → St → Prop} {σ : St} : awp P (.block id x) Q σ = awp P x (blockK id Q) σ:=rfl
theorem awp_cond {x : X} {t e : AC} {Q : Ex → St → Prop} {σ : St} : awp P (.cond x t e) Q σ = match x.ev σ with
    | .d _ (.bool b) => (b = true → awp P t Q σ) ∧ (b = false → awp P e Q σ)
    | _ => False:=rfl
theorem thenK_norm {n : St → Prop} {Q : Ex → St → Prop} {σ : St} : thenK n Q .norm σ = n σ:=rfl
theorem thenK_ret {n : St → Prop} {Q : Ex → St → Prop} {σ : St} : thenK n Q .ret σ = Q .ret σ:=rfl
theorem thenK_exit {n : St → Prop} {Q : Ex → St → Prop} {σ : St} {id : Nat} : thenK n Q (.exit id) σ = Q (.exit id) σ:=rfl
theorem blockK_norm {i : Nat} {Q : Ex → St → Prop} {σ : St} : blockK i Q .norm σ = Q .norm σ:=rfl
theorem blockK_ret {i : Nat} {Q : Ex → St → Prop} {σ : St} : blockK i Q .ret σ = Q .ret σ:=rfl
theorem blockK_exit {i j : Nat} {Q : Ex → St → Prop} {σ : St} : blockK i Q (.exit j) σ = bif Nat.beq j i then Q .norm σ else Q (.exit j) σ:=rfl
theorem s_loop {x : AC} {Q : Ex → St → Prop} {σ : St} (ι : Type) (I : ι → St) (μ : ι → Nat) (i0 : ι) (h0 : StLe σ (I i0))
    (h : ∀ i,∀ K : St → Prop,(∀ σ' j,StLe σ' (I j) → μ j < μ i → K σ') → awp P x (thenK K Q) (I i)) : awp P (.loop x) Q σ :=
  ⟨ι,I,μ,⟨i0,h0⟩,fun i => h i _ (fun σ' j h1 h2 => ⟨j,h2,h1⟩)⟩
theorem s_callq {f : FuncId} {As : List A} {K : A → Prop} {r : A} (h : Ct P f As r) (hs : scalar r = true) (hk : K r) : ∃ r,Ct P f As r ∧ scalar r = true ∧ K r:=⟨r,h,hs,hk⟩
theorem s_call {mk : Nat → Bool} {d : Option Nat} {σ0 σb σ : St} {xs : List X} {Bs : List A} {f : FuncId} {As : List A} {K : St → Prop} {r : A} (h : Ct P f As r) (hk : after d σb σ r K) : ACall P mk d σ0 xs σb Bs σ f As K:=.inl ⟨r,h,hk⟩
theorem s_mark {d : Option Nat} {σ0 σb σ : St} {zs : List X} {Bs : List A} {f : FuncId} {As : List A} {K : St → Prop} {i : Nat} {xs xs' : List (List D)} {r : A} (ht : treeArg σb Bs = some (i,xs)) (hl : Bs.length = As.length) (h : CtM P f (A.mk1L i Bs) xs xs' r)
    (hk : K (St.putO ⟨σb.t,σb.h.set i (.tree xs')⟩ d r)) : ACall P allB d σ0 zs σb Bs σ f As K:=.inr (.inl ⟨i,xs,xs',r,ht,rfl,hl,h,hk⟩)
theorem CtH.mono {f : FuncId} {As : List A} {Hs : List O} {Q Q' : A → List O → Prop} (h : CtH P f As Hs Q) (hq : ∀ r h',Q r h' → Q' r h') : CtH P f As Hs Q' :=
  ⟨h.1,fun w ok lo vs βs h1 h2 h3 h4 h5 h6 h7 => (h.2 w ok lo vs βs h1 h2 h3 h4 h5 h6 h7).mono (by rintro e w' ⟨v,r,h',βs',g1,g2,g3⟩;exact ⟨v,r,h',βs',g1,hq r h' g2,g3⟩)⟩
theorem Ct.weak {f : FuncId} {As : List A} {r r' : A} (h : Ct P f As r) (hl : A.Le r r') : Ct P f As r' :=
  ⟨h.1,fun w ok vs h0 h1 h2 => (h.2 w ok vs h0 h1 h2).mono (by rintro e w' ⟨v,rfl,h3,h4⟩;exact ⟨v,rfl,h3,VSim.le hl h4⟩)⟩
theorem Ct.own {f : FuncId} {As : List A} {x : D} (h : Ct P f As (.d false x)) (hs : D.sc x = true) : Ct P f As (.d true x) :=
  ⟨h.1,fun w ok vs h0 h1 h2 => (h.2 w ok vs h0 h1 h2).mono (by
    rintro e w' ⟨v,rfl,h3,h4⟩
    refine ⟨v,rfl,h3,?_⟩
    cases x with
    | int k n => have:=vint h4;rw [this.1];exact vsim_int k n this.2.1 this.2.2
    | bool b => rw [vbool h4];exact vsim_bool b
    | str s => have:=vstr h4;rw [this.1];exact vsim_str s this.2
    | sl xs => simp [D.sc] at hs
    | ifc b => simp [D.sc] at hs)⟩
theorem s_cut {x y : AC} {Q : Ex → St → Prop} {σ : St} (ι : Type) (M : ι → St) (h1 : awp P x (thenK (fun σ' => ∃ i,StLe σ' (M i)) Q) σ) (h2 : ∀ i,awp P y Q (M i)) : awp P (.seq x y) Q σ :=
  ⟨_,fun σ' ⟨i,hi⟩ => ⟨M i,.inr (.inl hi),h2 i⟩,h1⟩
theorem stle_of_eq {σ σ' : St} (h : σ = σ') (hs : StLe σ σ) : StLe σ σ':=by subst h;exact hs
theorem s_cutT {P : Program} {t : Tr} {keep : List Nat} {y : AC} {Q : Ex → St → Prop} {σ : St} (M : St) (h1 : awp P (.tree t keep) (thenK (fun σ' => StLe σ' M) Q) σ) (h2 : awp P y Q M) : awp P (.seq (.tree t keep) y) Q σ :=
  s_cut Unit (fun _ => M) (by
    have h : (thenK (fun σ' => StLe σ' M) Q) = thenK (fun σ' => ∃ _ : Unit,StLe σ' M) Q:=by
      funext e s
      cases e <;> simp [thenK]
    rw [← h];exact h1) (fun _ => h2)
end
attribute [go_sem] posH killST killSL killSH O.killS A.killS ksOf inN putAt posL renH A.ren A.renL O.ren pinsL mkB allB bldA wsN wsI rmv rng rdI inL Bool.or_false Bool.false_or Bool.or_true Bool.true_or after A.own1 A.own1L A.adp A.adpL frzT A.tid A.tid.go tids cellsT partC partsC D.sc A.sc partSc scL scLL nilL nilLL nilO killT killH killL O.kill A.free A.freeL Bool.and_false Bool.false_and Int.cast_ofNat_Int List.getD_cons_zero List.getD_cons_succ beq_self_eq_true imp_self implies_true gnot1 gnot2 gnot3 gnot4 Bool.not_not awpT awpTs gopV Res.goV keeps Bool.not_true Bool.not_false aopsQ gopQ Res.goQ St.frz A.sub A.subL O.sub subT subH frzY frzZ aops gop I.res X.ev lkp St.put St.putO Res.go Res.andp St.keep keepT thenK peel peelG pickB one setL aBin guards evs peels rowOf partD partsD dsOf St.frzs A.ids A.idsL A.arg A.argL bsel enumT cond_true cond_false List.length_cons List.length_nil List.length_append List.cons_append List.nil_append List.append_nil List.getElem?_cons_zero List.getElem?_cons_succ List.getElem?_nil List.set_cons_zero List.set_cons_succ List.drop_zero List.drop_succ_cons List.take_succ_cons List.take_zero List.map_cons List.map_nil Int.toNat_natCast true_and and_true true_implies List.all_cons List.all_nil Bool.and_true Bool.true_and nbeq nble decide_true decide_false Option.map_some Option.map_none Option.getD_some Option.getD_none false_implies forall_const if_true if_false Bool.false_eq_true and_self Nat.zero_add Nat.add_zero awp_skip awp_ret awp_exit awp_block awp_cond thenK_norm thenK_ret thenK_exit blockK_norm blockK_ret blockK_exit
theorem s_opq {P : Program} {g : G} {r : List G} {K : St → Prop} {σ : St} (h : ∀ K' : St → Prop,(∀ σ',aopsQ P r K σ' → K' σ') → gopQ P σ K' g) : aopsQ P (g :: r) K σ:=h _ (fun _ h => h)
theorem s_endq {P : Program} {K : St → Prop} {σ : St} (h : K σ) : aopsQ P [] K σ:=h
def awpN (P : Program) (K : St → Prop) (r : Tr) (n : Nat) (ws : List Nat) (σ : St) : Prop:=awpT P K r n ws σ
theorem s_norm {P : Program} {K : St → Prop} {ws : List Nat} {r : Tr} {n : Nat} {σ : St} (h : awpT P K r n ws σ) : awpN P K r n ws σ:=h
theorem s_take {P : Program} {K : St → Prop} {ws : List Nat} {g : G} {r : Tr} {n : Nat} {σ : St} (h : ∀ K' : St → Prop,(∀ σ',awpN P K r σ.h.length (wsN σ g.i n ws) σ' → K' σ') → gopV σ K' g) : awpT P K (.take g r) n ws σ:=h _ (fun _ h => h)
theorem s_done {P : Program} {K : St → Prop} {ws : List Nat} {n : Nat} {σ : St} (h : K σ) : awpT P K .done n ws σ:=h
theorem s_br {P : Program} {K : St → Prop} {ws : List Nat} {l : Trs} {n : Nat} {σ : St} (h : awpTs P K l n ws σ) : awpT P K (.br l) n ws σ:=h
theorem s_tnil {P : Program} {K : St → Prop} {ws : List Nat} {n : Nat} {σ : St} : awpTs P K .nil n ws σ:=trivial
def gopT (P : Program) (n0 : Nat) (ws : List Nat) (σ : St) (K : St → Prop) (g : G) : Prop:=match g.g with
  | none => keeps n0 ws σ g.i ∧ (g.i.res σ).go P (mkB n0 ws) g.d σ K
  | some (t,want) => match lkp σ.t t with
    | .d _ (.bool b) => (bsel want b = true → keeps n0 ws (σ.put t (.d true (.bool want))) g.i ∧ (g.i.res (σ.put t (.d true (.bool want)))).go P (mkB n0 ws) g.d (σ.put t (.d true (.bool want))) K) ∧
        (bsel want b = false → K ((σ.put t (.d true (.bool (!want)))).putO g.d .any))
    | _ => False
theorem s_cons {P : Program} {K : St → Prop} {ws : List Nat} {g : G} {r : Tr} {l : Trs} {n : Nat} {σ : St} (h : ∀ K' : St → Prop,(∀ σ',awpT P K r n ws σ' → K' σ') → gopT P n ws σ K' g) (hl : awpTs P K l n ws σ) : awpTs P K (.cons g r l) n ws σ:=by
  have h1:=h _ (fun _ h => h)
  simp only [awpTs]
  refine ⟨?_,hl⟩
  unfold gopT at h1
  exact h1
attribute [go_sem] gopT
theorem s_opt1 {P : Program} {σ : St} {K : St → Prop} {g : G} {t : Nat} {want b : Bool} (h : (bsel want b = true → (g.i.res (σ.put t (.d true (.bool want)))).go P allB g.d (σ.put t (.d true (.bool want))) K) ∧ (bsel want b = false → K ((σ.put t (.d true (.bool (!want)))).putO g.d (.opt false (.d true (.bool false)))))) : gopO P σ K g t want b true:=⟨fun _ => h,(fun h => by cases h)⟩
theorem s_opt0 {P : Program} {σ : St} {K : St → Prop} {g : G} {t : Nat} {want b : Bool} (h : K (σ.putO g.d (.opt false (.d true (.bool false))))) : gopO P σ K g t want b false:=⟨(fun h => by cases h),fun _ => h⟩
theorem s_optq1 {P : Program} {σ : St} {K : St → Prop} {g : G} {t : Nat} {want b : Bool} (h : (bsel want b = true → (g.i.res (σ.put t (.d true (.bool want)))).goQ P g.d (σ.put t (.d true (.bool want))) K) ∧ (bsel want b = false → K ((σ.put t (.d true (.bool (!want)))).putO g.d (.opt false (.d true (.bool false)))))) : gopOQ P σ K g t want b true:=⟨fun _ => h,(fun h => by cases h)⟩
theorem s_optq0 {P : Program} {σ : St} {K : St → Prop} {g : G} {t : Nat} {want b : Bool} (h : K (σ.putO g.d (.opt false (.d true (.bool false))))) : gopOQ P σ K g t want b false:=⟨(fun h => by cases h),fun _ => h⟩
end Go.Proofs.YtlddcimpdkcgeaaGreatDoor.Sym
