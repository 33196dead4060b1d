/- Regions and code over abstract states. -/
import Derived.Test.YtlddcimpdkcgeaaGreatDoorS10
import Derived.OrdersHeld
set_option linter.unusedVariables false
set_option linter.unusedSimpArgs false
namespace Go.Proofs.YtlddcimpdkcgeaaGreatDoor.Sym
open Go.RowKit
inductive Ex where
  | norm
  | exit (id : Nat)
  | ret
mutual
inductive Tr where
  | done
  | take (g : G) (r : Tr)
  | br (l : Trs)
inductive Trs where
  | nil
  | cons (g : G) (r : Tr) (l : Trs)
end
inductive AC where
  | bad
  | skip
  | ret
  | exit (id : Nat)
  | region (ops : List G) (keep : List Nat)
  | draw (ops : List G) (keep : List Nat)
  | tree (t : Tr) (keep : List Nat)
  | seq (x y : AC)
  | cond (x : X) (t e : AC)
  | block (id : Nat) (x : AC)
  | loop (x : AC)
def keepT (t : List (Nat × A)) : List Nat → List (Nat × A)
  | [] => []
  | k :: r => (k,lkp t k) :: keepT t r
def St.keep (σ : St) (l : List Nat) : St:=⟨keepT σ.t l,σ.h⟩
def Res.goQ (P : Program) (d : Option Nat) (σ : St) (K : St → Prop) : Res → Prop
  | .val p x => p ∧ K (σ.putO d x)
  | .call p σ0 xs σb Bs σ' f As => p ∧ ∃ r,Ct P f (A.argL As) r ∧ scalar r = true ∧ K (σ.putO d r)
  | _ => False
def gopOQ (P : Program) (σ : St) (K : St → Prop) (g : G) (t : Nat) (want b g' : Bool) : Prop :=
  (g' = true → (bsel want b = true → (g.i.res (σ.put t (.d true (.bool want)))).goQ P g.d (σ.put t (.d true (.bool want))) K) ∧ (bsel want b = false → K ((σ.put t (.d true (.bool (!want)))).putO g.d (.opt false (.d true (.bool false)))))) ∧ (g' = false → K (σ.putO g.d (.opt false (.d true (.bool false)))))
def gopQ (P : Program) (σ : St) (K : St → Prop) (g : G) : Prop :=
  match g.g with
  | none => (g.i.res σ).goQ P g.d σ K
  | some (t,want) => match lkp σ.t t with
    | .d _ (.bool b) => match g.i.res σ with
      | .val p x => (bsel want b = true → p) ∧ K (σ.putO g.d (.opt (bsel want b) x))
      | _ => (bsel want b = true → (g.i.res (σ.put t (.d true (.bool want)))).goQ P g.d (σ.put t (.d true (.bool want))) K) ∧ (bsel want b = false → K ((σ.put t (.d true (.bool (!want)))).putO g.d (.opt false (.d true (.bool false)))))
    | .opt g' (.d _ (.bool b)) => match g.i.res σ with
      | .val p x => (g' = true → bsel want b = true → p) ∧ K (σ.putO g.d (.opt (g' && bsel want b) x))
      | _ => gopOQ P σ K g t want b g'
    | _ => False
def aopsQ (P : Program) : List G → (St → Prop) → St → Prop
  | [],K,σ => K σ
  | g :: r,K,σ => gopQ P σ (aopsQ P r K) g
def Res.goV (d : Option Nat) (σ : St) (K : St → Prop) : Res → Prop
  | .val p x => p ∧ K (σ.putO d x)
  | _ => False
def gopV (σ : St) (K : St → Prop) (g : G) : Prop :=
  match g.g with
  | none => (g.i.res σ).goV g.d σ K
  | some (t,want) => match lkp σ.t t with
    | .d _ (.bool b) => match g.i.res σ with
      | .val p x => (bsel want b = true → p) ∧ K (σ.putO g.d (.opt (bsel want b) x))
      | _ => bsel want b = false ∧ K ((σ.put t (.d true (.bool (!want)))).putO g.d .any)
    | .opt g' (.d _ (.bool b)) => match g.i.res σ with
      | .val p x => (g' = true → bsel want b = true → p) ∧ K (σ.putO g.d (.opt (g' && bsel want b) x))
      | _ => False
    | _ => False
def inL : List Nat → Nat → Bool
  | [],_ => false
  | k :: r,i => Nat.beq k i || inL r i
def rdI (σ : St) (j : Nat) : I → Bool
  | .ld _ p => match peel (p.ev σ) with|.ptr i _ => Nat.beq i j|.optr i _ _ _ => Nat.beq i j|_ => false
  | .cvi _ _|.bstr _|.bad => true
  | _ => false
def clr (σ : St) (i : I) : List Nat → Bool
  | [] => true
  | j :: r => !rdI σ j i && clr σ i r
def keeps (n0 : Nat) (ws : List Nat) (σ : St) : I → Prop
  | .alloc _|.allocR _ _|.mks _ _ _ _ _ _|.bs _ _ _|.call _ _ => True
  | .st _ p _ => match p.ev σ with|.ptr i _ => (Nat.ble n0 i || inL ws i) = true|.optr i _ _ _ => (Nat.ble n0 i || inL ws i) = true|_ => False
  | .app _ _ _ s _ => match s.ev σ with|.osl i => (Nat.ble n0 i || inL ws i) = true|.nil => True|_ => False
  | .ld _ _|.mv _|.fa _ _|.ia _ _ _|.ix _ _|.bin _ _ _|.beq _ _ _|.inl _ _|.not _|.cvi _ _|.slen _|.len _|.sls _ _ _|.slc _ _ _ _|.ext _ _|.ck _|.bld _ _|.pick _ _ _|.bstr _ => True
  | _ => False
def rmv (j : Nat) : List Nat → List Nat
  | [] => []
  | k :: r => bif Nat.beq k j then rmv j r else k :: rmv j r
def wsI (σ : St) (l : List Nat) : I → List Nat
  | .ld _ p => match peel (p.ev σ) with|.ptr i _ => rmv i l|.optr i _ _ _ => rmv i l|_ => l
  | .cvi _ _|.bstr _|.bad => []
  | _ => l
def rng : Nat → Nat → List Nat
  | 0,_ => []
  | n + 1,k => k :: rng n (k + 1)
def wsN (σ : St) (i : I) (n0 : Nat) (ws : List Nat) : List Nat:=wsI σ (ws ++ rng (σ.h.length - n0) n0) i
def mkB (n0 : Nat) (ws : List Nat) (i : Nat) : Bool:=Nat.ble n0 i || inL ws i
mutual
def awpT (P : Program) (K : St → Prop) : Tr → Nat → List Nat → St → Prop
  | .done,_,_,σ => K σ
  | .take g r,n0,ws,σ => gopV σ (awpT P K r σ.h.length (wsN σ g.i n0 ws)) g
  | .br l,n0,ws,σ => awpTs P K l n0 ws σ
def awpTs (P : Program) (K : St → Prop) : Trs → Nat → List Nat → St → Prop
  | .nil,_,_,_ => True
  | .cons g r l,n0,ws,σ => (match g.g with
      | none => keeps n0 ws σ g.i ∧ (g.i.res σ).go P (mkB n0 ws) g.d σ (awpT P K r n0 ws)
      | some (t,want) => match lkp σ.t t with
        | .d _ (.bool b) => (bsel want b = true → keeps n0 ws (σ.put t (.d true (.bool want))) g.i ∧ (g.i.res (σ.put t (.d true (.bool want)))).go P (mkB n0 ws) g.d (σ.put t (.d true (.bool want))) (awpT P K r n0 ws)) ∧
            (bsel want b = false → awpT P K r n0 ws ((σ.put t (.d true (.bool (!want)))).putO g.d .any))
        | _ => False) ∧ awpTs P K l n0 ws σ
end
def thenK (n : St → Prop) (Q : Ex → St → Prop) : Ex → St → Prop
  | .norm,σ => n σ
  | e,σ => Q e σ
def blockK (id : Nat) (Q : Ex → St → Prop) : Ex → St → Prop
  | .exit j,σ => bif Nat.beq j id then Q .norm σ else Q (.exit j) σ
  | e,σ => Q e σ
def Imp (K K' : St → Prop) : Prop:=∀ σ,K σ → ∃ σ',(σ' = σ ∨ StLe σ σ' ∨ ∃ l,StLe (σ.frzs l) σ') ∧ K' σ'
def awp (P : Program) : AC → (Ex → St → Prop) → St → Prop
  | .bad,_,_ => False
  | .skip,Q,σ => Q .norm σ
  | .ret,Q,σ => Q .ret σ
  | .exit id,Q,σ => Q (.exit id) σ
  | .region ops keep,Q,σ => aops P ops (fun σ' => Q .norm (σ'.keep keep)) σ
  | .draw ops keep,Q,σ => aopsQ P ops (fun σ' => Q .norm (σ'.keep keep)) σ
  | .tree t keep,Q,σ => awpT P (fun σ' => Q .norm (σ'.keep keep)) t 0 [] σ
  | .seq x y,Q,σ => ∃ K : St → Prop,Imp K (awp P y Q) ∧ awp P x (thenK K Q) σ
  | .cond x t e,Q,σ => match x.ev σ with
    | .d _ (.bool b) => (b = true → awp P t Q σ) ∧ (b = false → awp P e Q σ)
    | _ => False
  | .block id x,Q,σ => awp P x (blockK id Q) σ
  | .loop x,Q,σ => ∃ (ι : Type) (I : ι → St) (μ : ι → Nat),(∃ i,StLe σ (I i)) ∧ ∀ i,awp P x (thenK (fun σ' => ∃ j,μ j < μ i ∧ StLe σ' (I j)) Q) (I i)
def quietOp (o : Oper) : Bool :=
  match o.op with
  | .assign (.const (.slice _ _ _)) => false
  | .assign _|.move _|.pick _ _ _|.load _ _|.fieldAddr _ _ _|.indexAddr _ _ _|.index _ _ _|.binOp _ _ _ _ _|.unOp _ _ _|.convert _ _ _|.build _ _|.slice _ _ _ _ _|.extract _ _|.nilCheck _ => true
  | .call cl => match cl.callee with|.builtin .len => true|_ => false
  | _ => false
def gAt (P : Program) (n : Nat) (ops : Array Oper) (i : Nat) : G:=match ops[i]? with|some o => toG P n ops o|none => ⟨none,none,.bad⟩
def rootT (ops : List Oper) : Nat → Nat → Nat
  | 0,t => t
  | f + 1,t => match ops.find? (fun o => match o.dst with|some d => Nat.beq d t|none => false) with
    | some o => match o.op with
      | .fieldAddr _ (.tmp x) _ => rootT ops f x
      | .indexAddr _ (.tmp x) _ => rootT ops f x
      | .nilCheck (.tmp x) => rootT ops f x
      | _ => t
    | none => t
def heldOp (ops : List Oper) (o : Oper) : Bool:=match o.op with
  | .load _ (.tmp p) => ops.any fun s => match s.op with|.store _ (.tmp q) _ => Nat.beq (rootT ops ops.length q) (rootT ops ops.length p)|_ => false
  | _ => false
def takes (ops : Array Oper) (listed : Array Bool) (i : Nat) : Bool:=(match ops[i]? with|some o => quietOp o && !heldOp ops.toList o|none => false) && Region.free .any ops listed i
def mkTrs (g : Nat → G) (k : Nat → Tr) : List Nat → Trs
  | [] => .nil
  | i :: r => .cons (g i) (k i) (mkTrs g k r)
def mkTr (P : Program) (n : Nat) (ops : Array Oper) : Nat → Array Bool → Tr
  | 0,listed => bif (Region.ready .any ops listed).isEmpty then .done else .take ⟨none,none,.bad⟩ .done
  | f + 1,listed => match Region.ready .any ops listed with
    | [] => .done
    | rs => match rs.find? (takes ops listed) with
      | some i => .take (gAt P n ops i) (mkTr P n ops f (listed.setIfInBounds i true))
      | none => .br (mkTrs (gAt P n ops) (fun i => mkTr P n ops f (listed.setIfInBounds i true)) rs)
def treed (keep : Nat → List Nat) (id : Nat) : Bool:=match keep (id + 1000000) with|[] => false|_ => true
def toAC (P : Program) (n : Nat) (keep : Nat → List Nat) : Code → AC
  | .skip => .skip
  | .ret => .ret
  | .exit id => .exit id
  | .region id ops false => .region (ops.toList.map (toG P n ops)) (keep id)
  | .region id ops true => bif treed keep id then .tree (mkTr P n ops ops.size (Array.replicate ops.size false)) (keep id) else .draw (ops.toList.map (toG P n ops)) (keep id)
  | .seq x y => .seq (toAC P n keep x) (toAC P n keep y)
  | .cond x t e => .cond (toX x) (toAC P n keep t) (toAC P n keep e)
  | .block id x => .block id (toAC P n keep x)
  | .loop x => .loop (toAC P n keep x)
  | _ => .bad
section
variable {P : Program} {c : Cx} {σ : St} {β : List Value} {a : Act} {w w' : World} {o : Oper} [hcx : Nonempty (CxOk c)]
theorem yielded_of (S : Sim c σ β a w) {ops : Array Oper} {j t : Nat} (hj : (ops[j]?).bind (·.dst) = some t) (ht : t < c.n) {b : Bool} (hv : a.tmps.getD t undef = .bool b) : yielded ops a.tmps j = some b:=by
  have _:=hcx
  have hlt : t < a.tmps.size:=by rw [S.size];exact ht
  have : a.tmps[t]? = some (.bool b):=by
    rw [Array.getElem?_eq_getElem hlt]
    rw [Array.getD_eq_getD_getElem?,Array.getElem?_eq_getElem hlt] at hv
    simpa using hv
  simp [yielded,hj,this]
theorem yielded_undef (S : Sim c σ β a w) {ops : Array Oper} {j t : Nat} (hj : (ops[j]?).bind (·.dst) = some t) (ht : t < c.n) {v : Value} (hv : a.tmps.getD t undef = v) (h : ∀ b,v ≠ .bool b) : yielded ops a.tmps j = none:=by
  have _:=hcx
  have hlt : t < a.tmps.size:=by rw [S.size];exact ht
  have : a.tmps[t]? = some v:=by
    rw [Array.getElem?_eq_getElem hlt]
    rw [Array.getD_eq_getD_getElem?,Array.getElem?_eq_getElem hlt] at hv
    simpa using hv
  unfold yielded
  rw [hj]
  simp only [Option.bind_some,this]
  cases v <;> first|rfl|exact absurd rfl (h _)
theorem bsel_eq (want b : Bool) : (some b == some want) = bsel want b:=by cases want <;> cases b <;> rfl
theorem toG_cases {n : Nat} {ops : Array Oper} (o : Oper) : (toG P n ops o = ⟨none,none,.bad⟩) ∨ ((toG P n ops o).d = o.dst ∧ (toG P n ops o).i = toI P o ∧ (∀ k,o.dst = some k → k < n) ∧
    ((o.guard = none ∧ (toG P n ops o).g = none) ∨ ∃ j want t,o.guard = some (j,want) ∧ (ops[j]?).bind (·.dst) = some t ∧ t < n ∧ (toG P n ops o).g = some (t,want))):=by
  unfold toG
  cases hd : o.dst with
  | none =>
    simp only
    cases hg : o.guard with
    | none => exact .inr ⟨rfl,rfl,by simp,.inl ⟨rfl,rfl⟩⟩
    | some q =>
      obtain ⟨j,want⟩:=q
      simp only
      cases ht : (ops[j]?).bind (·.dst) with
      | none => exact .inl rfl
      | some t =>
        simp only
        by_cases htn : t < n
        · rw [if_pos htn];exact .inr ⟨rfl,rfl,by simp,.inr ⟨j,want,t,rfl,ht,htn,rfl⟩⟩
        · rw [if_neg htn];exact .inl rfl
  | some d =>
    simp only
    by_cases hdn : d < n
    · rw [if_pos hdn]
      cases hg : o.guard with
      | none => exact .inr ⟨rfl,rfl,by rintro k ⟨⟩;exact hdn,.inl ⟨rfl,rfl⟩⟩
      | some q =>
        obtain ⟨j,want⟩:=q
        simp only
        cases ht : (ops[j]?).bind (·.dst) with
        | none => exact .inl rfl
        | some t =>
          simp only
          by_cases htn : t < n
          · rw [if_pos htn];exact .inr ⟨rfl,rfl,by rintro k ⟨⟩;exact hdn,.inr ⟨j,want,t,rfl,ht,htn,rfl⟩⟩
          · rw [if_neg htn];exact .inl rfl
    · rw [if_neg hdn];exact .inl rfl
theorem Sim.putO (S : Sim c σ β a w) {d : Option Nat} (hn : ∀ k,d = some k → k < c.n) {x : A} {v : Value} (hv : VSim w (okOf c w σ.h β) c.lo β x v) : Sim c (σ.putO d x) β (a.put d v) w:=by
  have _:=hcx
  cases d with
  | none => exact S
  | some k => exact S.put (hn k rfl) hv
theorem gop_ok {n : Nat} (S : Sim c σ β a w) (hcn : c.n = n) {K : St → Prop} {Q : Exit → Act → World → Prop} {ops : Array Oper} (h : gop P σ K (toG P n ops o)) :
    if Region.wanted o (yielded ops a.tmps) then o.wp P a w (SK c K) Q else SK c K (a.put o.dst undef) w:=by
  subst hcn
  rcases toG_cases (P:=P) (n:=c.n) (ops:=ops) o with hbad|⟨hd,hi,hdn,hg⟩
  · rw [hbad] at h
    simp only [gop,I.res,Res.go] at h
  · unfold gop at h
    rw [hd,hi] at h
    rcases hg with ⟨hg,hg'⟩|⟨j,want,t,hg,hj,htn,hg'⟩
    · rw [hg'] at h
      rw [if_pos (by simp [Region.wanted,hg])]
      exact go_ok S rfl hdn h
    · rw [hg'] at h
      simp only at h
      have htmp:=S.tmp t
      split at h
      · rename_i o1 b hb
        rw [hb] at htmp
        have hv:=vbool htmp
        have hy:=yielded_of S hj htn hv
        have hw : Region.wanted o (yielded ops a.tmps) = bsel want b:=by simp only [Region.wanted,hg,hy];exact bsel_eq want b
        rw [hw]
        have other : ((bsel want b = true → ((toI P o).res (σ.put t (.d true (.bool want)))).go P allB o.dst (σ.put t (.d true (.bool want))) K) ∧ (bsel want b = false → K ((σ.put t (.d true (.bool (!want)))).putO o.dst (.opt false (.d true (.bool false)))))) →
            if bsel want b = true then o.wp P a w (SK c K) Q else SK c K (a.put o.dst undef) w:=by
          rintro ⟨h1,h2⟩
          cases hs : bsel want b with
          | true =>
            have hbw : b = want:=by revert hs;cases want <;> cases b <;> simp [bsel]
            rw [if_pos rfl]
            exact go_ok (S.re (d:=t) (x:=.d true (.bool want)) (by rw [hv,hbw];exact vsim_bool _)) rfl hdn (h1 hs)
          | false =>
            have hbw : b = !want:=by revert hs;cases want <;> cases b <;> simp [bsel]
            rw [if_neg (by simp)]
            exact ⟨_,β,h2 hs,(S.re (d:=t) (x:=.d true (.bool (!want))) (by rw [hv,hbw];exact vsim_bool _)).putO hdn (by simp [VSim])⟩
        split at h
        · rename_i p x hres
          cases hs : bsel want b with
          | true =>
            rw [hs] at h
            rw [if_pos rfl]
            have hr:=res_ok (P:=P) S o
            rw [hres] at hr
            obtain ⟨v,h1,h2⟩:=hr (h.1 rfl)
            unfold Oper.wp
            rw [h1 w _ (Fr.refl _ _) Away.none]
            exact ⟨_,β,h.2,S.putO hdn (by simp only [VSim];exact ⟨fun _ => h2,fun h => by cases h⟩)⟩
          | false =>
            rw [hs] at h
            rw [if_neg (by simp)]
            exact ⟨_,β,h.2,S.putO hdn (by simp [VSim])⟩
        · exact other h
      · rename_i g' o1 b hb
        split at h
        · rename_i p x hres
          rw [hb] at htmp
          simp only [VSim] at htmp
          cases hg1 : g' with
          | false =>
            rw [hg1] at h
            simp only [Bool.false_and] at h
            rw [hg1] at htmp
            have hy:=yielded_undef S hj htn (htmp.2 rfl) (fun b => by simp [undef])
            rw [if_neg (by simp [Region.wanted,hg,hy])]
            exact ⟨_,β,h.2,S.putO hdn (by simp [VSim])⟩
          | true =>
            rw [hg1] at h htmp
            simp only [Bool.true_and,true_implies] at h
            have hv:=vbool (o:=o1) (htmp.1 rfl)
            have hy:=yielded_of S hj htn hv
            have hw : Region.wanted o (yielded ops a.tmps) = bsel want b:=by simp only [Region.wanted,hg,hy];exact bsel_eq want b
            rw [hw]
            cases hs : bsel want b with
            | true =>
              rw [hs] at h
              rw [if_pos rfl]
              have hr:=res_ok (P:=P) S o
              rw [hres] at hr
              obtain ⟨v,h1,h2⟩:=hr (h.1 rfl)
              unfold Oper.wp
              rw [h1 w _ (Fr.refl _ _) Away.none]
              exact ⟨_,β,h.2,S.putO hdn (by simp only [VSim];exact ⟨fun _ => h2,fun h => by cases h⟩)⟩
            | false =>
              rw [hs] at h
              rw [if_neg (by simp)]
              exact ⟨_,β,h.2,S.putO hdn (by simp [VSim])⟩
        · unfold gopO at h
          rw [hd,hi] at h
          rw [hb] at htmp
          simp only [VSim] at htmp
          cases hg1 : g' with
          | false =>
            rw [hg1] at htmp
            have hy:=yielded_undef S hj htn (htmp.2 rfl) (fun b => by simp [undef])
            rw [if_neg (by simp [Region.wanted,hg,hy])]
            exact ⟨_,β,h.2 hg1,S.putO hdn (by simp [VSim])⟩
          | true =>
            rw [hg1] at htmp
            have hv:=vbool (o:=o1) (htmp.1 rfl)
            have hy:=yielded_of S hj htn hv
            have hw : Region.wanted o (yielded ops a.tmps) = bsel want b:=by simp only [Region.wanted,hg,hy];exact bsel_eq want b
            rw [hw]
            obtain ⟨h1,h2⟩:=h.1 hg1
            cases hs : bsel want b with
            | true =>
              have hbw : b = want:=by revert hs;cases want <;> cases b <;> simp [bsel]
              rw [if_pos rfl]
              exact go_ok (S.re (d:=t) (x:=.d true (.bool want)) (by rw [hv,hbw];exact vsim_bool _)) rfl hdn (h1 hs)
            | false =>
              have hbw : b = !want:=by revert hs;cases want <;> cases b <;> simp [bsel]
              rw [if_neg (by simp)]
              exact ⟨_,β,h2 hs,(S.re (d:=t) (x:=.d true (.bool (!want))) (by rw [hv,hbw];exact vsim_bool _)).putO hdn (by simp [VSim])⟩
      · exact h.elim
theorem aops_ok {ops : Array Oper} {K : St → Prop} {Q : Exit → Act → World → Prop} (hQ : ∀ a w,SK c K a w → Q .normal a w) : ∀ (l : List Oper) (σ : St) (β : List Value) (a : Act) (w : World),Sim c σ β a w →
    aops P (l.map (toG P c.n ops)) K σ → wpList P ops Q l a w
  | [],σ,β,a,w,S,h => hQ a w ⟨σ,β,h,S⟩
  | o :: l,σ,β,a,w,S,h => by
    simp only [List.map_cons,aops] at h
    have hg:=gop_ok (P:=P) (Q:=Q) (ops:=ops) S rfl h
    have hnext : ∀ a' w',SK c (aops P (l.map (toG P c.n ops)) K) a' w' → wpList P ops Q l a' w':=by
      rintro a' w' ⟨σ',β',h',S'⟩
      exact aops_ok hQ l σ' β' a' w' S' h'
    unfold wpList
    split
    · rename_i hw
      rw [if_pos hw] at hg
      left
      unfold Oper.wp at hg ⊢
      revert hg
      generalize (execOp a.eval o).run P w = r
      intro hg
      cases r with
      | halt x w' => cases x <;> exact hg
      | ok n w' =>
        cases n <;> simp only [Oper.upon] at hg ⊢ <;> first|exact hnext _ _ hg|exact hg|skip
        · refine hg.mono ?_
          intro e w'' he
          cases e <;> first|exact hnext _ _ he|exact he
        · exact hg.mono (fun v w'' he => hnext _ _ he)
    · rename_i hw
      rw [if_neg hw] at hg
      exact hnext _ _ hg
theorem lkp_keepT (t : List (Nat × A)) (j : Nat) : ∀ l : List Nat,lkp (keepT t l) j = .any ∨ lkp (keepT t l) j = lkp t j
  | [] => .inl rfl
  | k :: r => by
    simp only [keepT,lkp]
    by_cases h : k = j
    · subst h;rw [Nat.beq_refl];exact .inr rfl
    · rw [beq_no h];exact lkp_keepT t j r
theorem Sim.keep (S : Sim c σ β a w) (l : List Nat) : Sim c (σ.keep l) β a w:=by
  have _:=hcx
  exact S.weak (fun j => lkp_keepT σ.t j l)
theorem goQ_ok {K : St → Prop} {d : Option Nat} (hd : o.dst = d) (hn : ∀ k,d = some k → k < c.n) (S : Sim c σ β a w) (h : ((toI P o).res σ).goQ P d σ K) :
    ∃ v,(∀ w',Ext w w' → o.quietAt P a (Ext w) w' v) ∧ ∃ σ',K σ' ∧ Sim c σ' β (a.put d v) w:=by
  have hr:=res_ok (P:=P) S o
  cases hres : (toI P o).res σ with
  | bad => rw [hres] at h;exact h.elim
  | st p σ' x => rw [hres] at h;exact h.elim
  | val p x =>
    rw [hres] at h hr
    obtain ⟨v,h1,h2⟩:=hr h.1
    refine ⟨v,fun w' hw => ?_,_,h.2,S.putO hn h2⟩
    unfold Oper.quietAt
    rw [h1 w' _ hw Away.none]
    exact ⟨rfl,rfl⟩
  | call p σ0 xs0 σb Bs σ' f As =>
    rw [hres] at h hr
    obtain ⟨hp,r,hc,hs,hk⟩:=h
    obtain ⟨v,hv,hvs⟩ : ∃ v,(∀ (w' : World) (ok : Nat → Prop) (lo : Nat) (β' : List Value) (u : Value),VSim w' ok lo β' r u → u = v) ∧ ∀ (w' : World) (ok : Nat → Prop) (lo : Nat) (β' : List Value) (u : Value),VSim w' ok lo β' r u → VSim w (okOf c w σ.h β) c.lo β r v:=by
      cases r <;> simp [scalar] at hs
      rename_i o1 x
      cases x <;> simp at hs
      · rename_i k n
        refine ⟨.int k n,fun w' ok lo β' u hu => (vint hu).1,fun w' ok lo β' u hu => ?_⟩
        have:=(vint hu).2
        cases o1 with
        | true => exact vsim_int k n this.1 this.2
        | false => exact .int k n this.1 this.2
      · rename_i b
        refine ⟨.bool b,fun w' ok lo β' u hu => vbool hu,fun w' ok lo β' u hu => ?_⟩
        cases o1 with
        | true => exact vsim_bool b
        | false => exact .bool b
      · rename_i s
        refine ⟨.string s,fun w' ok lo β' u hu => (vstr hu).1,fun w' ok lo β' u hu => ?_⟩
        have:=(vstr hu).2
        cases o1 with
        | true => exact vsim_str s this
        | false => exact .str s this
    obtain ⟨_,vs,_,h1,_,_,S',h2,_⟩:=hr hp
    obtain ⟨e0,w0,fr0,⟨v0,_,_,_,hv0,_⟩,_⟩:=call_ok S' hc h2 []
    refine ⟨v,fun w' hw => ?_,_,hk,S.putO hn (hvs _ _ _ _ _ hv0)⟩
    have h2' : VSimL w' (okOf c w' σ'.h β) c.lo β As vs:=h2.move (p:=fun _ => true) (fun b hb => ⟨⟨Nat.lt_of_lt_of_le hb.1 hw.size,hb.2⟩,hw.block b hb.1 (fun h => h)⟩) (Nat.le_refl _) (fun _ _ _ h => h) (A.freeL_true _)
    unfold Oper.quietAt
    rw [h1 w' hw,run_callFunc hc.1]
    refine ⟨rfl,(call_ok (S'.ext hw) hc h2').mono ?_⟩
    rintro e w'' ⟨u,rfl,hx,_,hu,_⟩
    rw [hv _ _ _ _ _ hu]
    exact ⟨rfl,hw.trans hx (fun _ _ h => h.elim)⟩
theorem gopQ_ok {n : Nat} (S : Sim c σ β a w) (hcn : c.n = n) {K : St → Prop} {ops : Array Oper} (h : gopQ P σ K (toG P n ops o)) :
    ∃ v,(if Region.wanted o (yielded ops a.tmps) then (∀ w',Ext w w' → o.quietAt P a (Ext w) w' v) else v = undef) ∧ ∃ σ',K σ' ∧ Sim c σ' β (a.put o.dst v) w:=by
  subst hcn
  have val : ∀ {p : Prop} {x : A},(toI P o).res σ = .val p x → p → ∃ v,(∀ w',Ext w w' → o.quietAt P a (Ext w) w' v) ∧ VSim w (okOf c w σ.h β) c.lo β x v:=by
    intro p x hres hp
    have hr:=res_ok (P:=P) S o
    rw [hres] at hr
    obtain ⟨v,h1,h2⟩:=hr hp
    refine ⟨v,fun w' hw => ?_,h2⟩
    unfold Oper.quietAt
    rw [h1 w' _ hw Away.none]
    exact ⟨rfl,rfl⟩
  rcases toG_cases (P:=P) (n:=c.n) (ops:=ops) o with hbad|⟨hd,hi,hdn,hg⟩
  · rw [hbad] at h
    simp only [gopQ,I.res,Res.goQ] at h
  · unfold gopQ at h
    rw [hd,hi] at h
    rcases hg with ⟨hg,hg'⟩|⟨j,want,t,hg,hj,htn,hg'⟩
    · rw [hg'] at h
      obtain ⟨v,h1,h2⟩:=goQ_ok (P:=P) (o:=o) rfl hdn S h
      exact ⟨v,by rw [if_pos (by simp [Region.wanted,hg])];exact h1,h2⟩
    · rw [hg'] at h
      simp only at h
      have htmp:=S.tmp t
      split at h
      · rename_i o1 b hb
        rw [hb] at htmp
        have hv:=vbool htmp
        have hy:=yielded_of S hj htn hv
        have hw : Region.wanted o (yielded ops a.tmps) = bsel want b:=by simp only [Region.wanted,hg,hy];exact bsel_eq want b
        rw [hw]
        split at h
        · rename_i p x hres
          cases hs : bsel want b with
          | true =>
            rw [hs] at h
            obtain ⟨v,h1,h2⟩:=val hres (h.1 rfl)
            exact ⟨v,by rw [if_pos rfl];exact h1,_,h.2,S.putO hdn (by simp only [VSim];exact ⟨fun _ => h2,fun h => by cases h⟩)⟩
          | false =>
            rw [hs] at h
            exact ⟨undef,by rw [if_neg (by simp)],_,h.2,S.putO hdn (by simp [VSim])⟩
        · obtain ⟨h1,h2⟩:=h
          cases hs : bsel want b with
          | true =>
            have hbw : b = want:=by revert hs;cases want <;> cases b <;> simp [bsel]
            obtain ⟨v,g1,g2⟩:=goQ_ok (P:=P) (o:=o) rfl hdn (S.re (d:=t) (x:=.d true (.bool want)) (by rw [hv,hbw];exact vsim_bool _)) (h1 hs)
            exact ⟨v,by rw [if_pos rfl];exact g1,g2⟩
          | false =>
            have hbw : b = !want:=by revert hs;cases want <;> cases b <;> simp [bsel]
            exact ⟨undef,by rw [if_neg (by simp)],_,h2 hs,(S.re (d:=t) (x:=.d true (.bool (!want))) (by rw [hv,hbw];exact vsim_bool _)).putO hdn (by simp [VSim])⟩
      · rename_i g' o1 b hb
        split at h
        · rename_i p x hres
          rw [hb] at htmp
          simp only [VSim] at htmp
          cases hg1 : g' with
          | false =>
            rw [hg1] at h
            simp only [Bool.false_and] at h
            rw [hg1] at htmp
            have hy:=yielded_undef S hj htn (htmp.2 rfl) (fun b => by simp [undef])
            exact ⟨undef,by rw [if_neg (by simp [Region.wanted,hg,hy])],_,h.2,S.putO hdn (by simp [VSim])⟩
          | true =>
            rw [hg1] at h htmp
            simp only [Bool.true_and,true_implies] at h
            have hv:=vbool (o:=o1) (htmp.1 rfl)
            have hy:=yielded_of S hj htn hv
            have hw : Region.wanted o (yielded ops a.tmps) = bsel want b:=by simp only [Region.wanted,hg,hy];exact bsel_eq want b
            rw [hw]
            cases hs : bsel want b with
            | true =>
              rw [hs] at h
              obtain ⟨v,h1,h2⟩:=val hres (h.1 rfl)
              exact ⟨v,by rw [if_pos rfl];exact h1,_,h.2,S.putO hdn (by simp only [VSim];exact ⟨fun _ => h2,fun h => by cases h⟩)⟩
            | false =>
              rw [hs] at h
              exact ⟨undef,by rw [if_neg (by simp)],_,h.2,S.putO hdn (by simp [VSim])⟩
        · unfold gopOQ at h
          rw [hd,hi] at h
          rw [hb] at htmp
          simp only [VSim] at htmp
          cases hg1 : g' with
          | false =>
            rw [hg1] at htmp
            have hy:=yielded_undef S hj htn (htmp.2 rfl) (fun b => by simp [undef])
            exact ⟨undef,by rw [if_neg (by simp [Region.wanted,hg,hy])],_,h.2 hg1,S.putO hdn (by simp [VSim])⟩
          | true =>
            rw [hg1] at htmp
            have hv:=vbool (o:=o1) (htmp.1 rfl)
            have hy:=yielded_of S hj htn hv
            have hw : Region.wanted o (yielded ops a.tmps) = bsel want b:=by simp only [Region.wanted,hg,hy];exact bsel_eq want b
            rw [hw]
            obtain ⟨h1,h2⟩:=h.1 hg1
            cases hs : bsel want b with
            | true =>
              have hbw : b = want:=by revert hs;cases want <;> cases b <;> simp [bsel]
              obtain ⟨v,g1,g2⟩:=goQ_ok (P:=P) (o:=o) rfl hdn (S.re (d:=t) (x:=.d true (.bool want)) (by rw [hv,hbw];exact vsim_bool _)) (h1 hs)
              exact ⟨v,by rw [if_pos rfl];exact g1,g2⟩
            | false =>
              have hbw : b = !want:=by revert hs;cases want <;> cases b <;> simp [bsel]
              exact ⟨undef,by rw [if_neg (by simp)],_,h2 hs,(S.re (d:=t) (x:=.d true (.bool (!want))) (by rw [hv,hbw];exact vsim_bool _)).putO hdn (by simp [VSim])⟩
      · exact h.elim
theorem aopsQ_ok {ops : Array Oper} {K : St → Prop} {Q : Act → Prop} (hQ : ∀ σ β a,Sim c σ β a w → K σ → Q a) : ∀ (l : List Oper) (σ : St) (β : List Value) (a : Act),Sim c σ β a w →
    aopsQ P (l.map (toG P c.n ops)) K σ → wpQuiet P ops (Ext w) Q l a
  | [],σ,β,a,S,h => hQ σ β a S h
  | o :: l,σ,β,a,S,h => by
    simp only [List.map_cons,aopsQ] at h
    obtain ⟨v,h1,σ',h2,S'⟩:=gopQ_ok (P:=P) (ops:=ops) S rfl h
    unfold wpQuiet
    split
    · rename_i hw
      rw [if_pos hw] at h1
      exact ⟨v,h1,aopsQ_ok hQ l σ' β _ S' h2⟩
    · rename_i hw
      rw [if_neg hw] at h1
      rw [h1] at S'
      exact aopsQ_ok hQ l σ' β _ S' h2
def SE (c : Cx) (E : List O → List Value → World → Prop) (K : St → Prop) (a : Act) (w : World) : Prop:=∃ σ β,K σ ∧ Sim c σ β a w ∧ E σ.h β w
theorem toI_alloc {z : List A} (h : toI P o = .alloc z) : ∃ t,o.op = .alloc t:=by
  unfold toI at h
  cases ho : o.op <;> rw [ho] at h <;> first|exact ⟨_,rfl⟩|(exfalso;simp only [asgI,allocI,binI,ldI,faI,iaI,ixI,cvI,lenI,rowI,appI,callI,bsI,bldI,slI,mkfI] at h;(repeat' split at h) <;> cases h)
theorem toI_allocR {e n : Nat} (h : toI P o = .allocR e n) : ∃ t,o.op = .alloc t:=by
  unfold toI at h
  cases ho : o.op <;> rw [ho] at h <;> first|exact ⟨_,rfl⟩|(exfalso;simp only [asgI,allocI,binI,ldI,faI,iaI,ixI,cvI,lenI,rowI,appI,callI,bsI,bldI,slI,mkfI] at h;(repeat' split at h) <;> cases h)
theorem toI_st {n : Nat} {p v : X} (h : toI P o = .st n p v) : ∃ t x y,o.op = .store t x y ∧ p = toX x:=by
  unfold toI at h
  cases ho : o.op <;> rw [ho] at h <;> first|(exfalso;simp only [asgI,allocI,binI,ldI,faI,iaI,ixI,cvI,lenI,rowI,appI,callI,bsI,bldI,slI,mkfI] at h;(repeat' split at h) <;> cases h;done)|skip
  rename_i t x y
  refine ⟨t,x,y,rfl,?_⟩
  simp only at h
  split at h
  · injection h with h1 h2 h3;exact h2.symm
  · cases h
theorem toI_mks {e1 e2 e3 : Nat} {z : List A} {l m : X} (h : toI P o = .mks e1 e2 e3 z l m) : ∃ t x y,o.op = .makeSlice t x y:=by
  unfold toI at h
  cases ho : o.op <;> rw [ho] at h <;> first|exact ⟨_,_,_,rfl⟩|(exfalso;simp only [asgI,allocI,binI,ldI,faI,iaI,ixI,cvI,lenI,rowI,appI,callI,bsI,bldI,slI,mkfI] at h;(repeat' split at h) <;> cases h)
theorem toI_app {e1 e2 e3 : Nat} {x y : X} (h : toI P o = .app e1 e2 e3 x y) : ∃ cl,o.op = .call cl:=by
  unfold toI at h
  cases ho : o.op <;> rw [ho] at h <;> first|exact ⟨_,rfl⟩|(exfalso;simp only [asgI,allocI,binI,ldI,faI,iaI,ixI,cvI,lenI,rowI,appI,callI,bsI,bldI,slI,mkfI] at h;(repeat' split at h) <;> cases h)
theorem toI_bs {e1 e2 : Nat} {l : List X} (h : toI P o = .bs e1 e2 l) : ∃ t n p,o.op = .buildSlice t n p:=by
  unfold toI at h
  cases ho : o.op <;> rw [ho] at h <;> first|exact ⟨_,_,_,rfl⟩|(exfalso;simp only [asgI,allocI,binI,ldI,faI,iaI,ixI,cvI,lenI,rowI,appI,callI,bsI,bldI,slI,mkfI] at h;(repeat' split at h) <;> cases h)
def Wb (ws : List Nat) (h : List O) (β : List Value) (b : Nat) : Prop:=∃ i q v,inL ws i = true ∧ h[i]? = some q ∧ β[i]? = some v ∧ b ∈ blkOf q v
structure Newer (n0 : Nat) (ws : List Nat) (W : Nat → Prop) (wb : World) (h : List O) (β : List Value) (w : World) : Prop where
  fr : Fr W wb w
  len : n0 ≤ β.length
  new : ∀ (i : Nat) (q : O) (v : Value) (b : Nat),(n0 ≤ i ∨ inL ws i = true) → h[i]? = some q → β[i]? = some v → b ∈ blkOf q v → W b ∨ wb.heap.size ≤ b
theorem res_val {i : I} (hi : (match i with|.ld _ _|.mv _|.fa _ _|.ia _ _ _|.ix _ _|.bin _ _ _|.beq _ _ _|.inl _ _|.not _|.cvi _ _|.slen _|.len _|.sls _ _ _|.slc _ _ _ _|.ext _ _|.ck _|.bld _ _|.bstr _|.call _ _ => true|_ => false) = true) (σ : St) (p : Prop) (σ' : St) (r : A) : i.res σ ≠ .st p σ' r:=by
  cases i <;> first|(cases hi;done)|skip
  case ld n x =>
    intro hres
    cases n <;> simp only [I.res] at hres <;> (repeat' split at hres) <;> cases hres
  all_goals
    intro hres
    simp only [I.res] at hres
    (repeat' split at hres) <;> cases hres
theorem res_pick (σ : St) (cc x y : X) (p : Prop) (σ' : St) (r : A) : (I.pick cc x y).res σ ≠ .st p σ' r:=by
  simp only [I.res]
  split
  · unfold pickB
    split <;> simp [Res.andp]
  · simp
theorem keeps_tch {n0 : Nat} {ws : List Nat} (hk : keeps n0 ws σ (toI P o)) {p : Prop} {σ' : St} {x : A} (hres : (toI P o).res σ = .st p σ' x) {j : Nat} (hj : tchO σ o j = true) : n0 ≤ j ∨ inL ws j = true:=by
  have fin : ∀ i,Nat.beq i j = true → (Nat.ble n0 i || inL ws i) = true → n0 ≤ j ∨ inL ws j = true:=by
    intro i h1 h2
    have:=Nat.eq_of_beq_eq_true h1
    subst this
    simp only [Bool.or_eq_true] at h2
    exact h2.imp Nat.le_of_ble_eq_true id
  unfold tchO at hj
  split at hj
  · rename_i t p' v ho
    have hi : toI P o = .bad ∨ toI P o = .st (P.cellsOf t) (toX p') (toX v):=by unfold toI;rw [ho];simp only;split <;> simp
    rcases hi with hi|hi
    · rw [hi] at hk;exact hk.elim
    · rw [hi] at hk
      simp only [keeps] at hk
      split at hj
      · rename_i i off hp;rw [hp] at hk;exact fin i hj hk
      · rename_i i a b c hp;rw [hp] at hk;exact fin i hj hk
      · cases hj
  · rename_i cl ho
    split at hj
    · rename_i s r hs
      split at hj
      · rename_i i hp
        have hi : toI P o = callI P cl:=by unfold toI;rw [ho]
        rw [hi] at hk hres
        unfold callI at hk hres
        split at hk
        · exfalso
          rename_i hc
          rw [hc] at hres
          simp only at hres
          unfold lenI at hres
          split at hres
          · split at hres
            · exact absurd hres (res_val rfl _ _ _ _)
            · exact absurd hres (res_val rfl _ _ _ _)
            · simp [I.res] at hres
          · simp [I.res] at hres
        · rename_i hc
          rw [hc] at hres
          simp only at hres
          unfold appI at hk
          rw [hs] at hk
          split at hk
          · rename_i s' x' t' u' hargs _
            simp only [List.cons.injEq] at hargs
            obtain ⟨rfl,rfl⟩:=hargs
            split at hk
            · unfold rowI at hk
              split at hk
              · split at hk
                · split at hk
                  · split at hk
                    · simp only [keeps,hp] at hk
                      exact fin i hj hk
                    · exact hk.elim
                  · exact hk.elim
                · exact hk.elim
              · exact hk.elim
            · exact hk.elim
          · exact hk.elim
        · rename_i hc
          rw [hc] at hres
          exact absurd hres (res_val rfl _ _ _ _)
        · exact hk.elim
      · cases hj
    · cases hj
  · cases hj
theorem newer_st {wb : World} {n0 : Nat} {ws : List Nat} {W : Nat → Prop} (S : Sim c σ β a w) (hk : keeps n0 ws σ (toI P o)) (hN : Newer n0 ws W wb σ.h β w) {p : Prop} {σ' : St} {x : A} (hres : (toI P o).res σ = .st p σ' x) {β' : List Value} (hw : Nw σ o β w σ' β' w') : Newer n0 ws W wb σ'.h β' w':=by
  have _:=hcx
  have key : NwG (fun j => tchO σ o j = true) σ.h β w σ'.h β' w' → Newer n0 ws W wb σ'.h β' w':=by
    intro hw
    refine ⟨hN.fr.trans hw.fr (fun b hlt ⟨i,q,v,hT,h1,h2,h3⟩ => ?_),Nat.le_trans hN.len hw.len,fun i q' v' b hi h1 h2 h3 => ?_⟩
    · rcases hN.new i q v b (keeps_tch hk hres hT) h1 h2 h3 with h|h
      · exact h
      · omega
    · rcases hw.blk i q' v' b h1 h2 h3 with h|⟨q,v,g1,g2,g3⟩
      · exact .inr (Nat.le_trans hN.fr.size h)
      · exact hN.new i q v b hi g1 g2 g3
  unfold Nw at hw
  cases hi : toI P o <;> rw [hi] at hk hres <;> simp only [keeps] at hk
  case alloc z =>
    obtain ⟨t,ho⟩:=toI_alloc hi
    rw [ho] at hw;exact key hw
  case allocR e n =>
    obtain ⟨t,ho⟩:=toI_allocR hi
    rw [ho] at hw;exact key hw
  case mks =>
    obtain ⟨t,x,y,ho⟩:=toI_mks hi
    rw [ho] at hw;exact key hw
  case bs =>
    obtain ⟨t,x,y,ho⟩:=toI_bs hi
    rw [ho] at hw;exact key hw
  case st n q v =>
    obtain ⟨t,x,y,ho,rfl⟩:=toI_st hi
    rw [ho] at hw;exact key hw
  case app =>
    obtain ⟨cl,ho⟩:=toI_app hi
    rw [ho] at hw;exact key hw
  case pick => exact absurd hres (res_pick _ _ _ _ _ _ _)
  all_goals first|exact hk.elim|exact absurd hres (res_val rfl _ _ _ _)
theorem goE_ok {wb : World} {n0 : Nat} {ws : List Nat} {W : Nat → Prop} (S : Sim c σ β a w) {K : St → Prop} {Q : Exit → Act → World → Prop} {d : Option Nat} (hd : o.dst = d) (hn : ∀ k,d = some k → k < c.n) (hk : keeps n0 ws σ (toI P o)) (hN : Newer n0 ws W wb σ.h β w)
    (h : ((toI P o).res σ).go P (mkB n0 ws) d σ K) : o.wp P a w (SE c (Newer n0 ws W wb) K) Q:=by
  have hr:=res_ok (P:=P) S o
  have put : ∀ {σ' : St} {β' : List Value} {w' : World} {x : A} {v : Value},Sim c σ' β' a w' → VSim w' (okOf c w' σ'.h β') c.lo β' x v → Sim c (σ'.putO d x) β' (a.put o.dst v) w':=by
    intro σ' β' w' x v S' hv
    rw [hd]
    cases d with
    | none => exact S'
    | some k => exact S'.put (hn k rfl) hv
  unfold Oper.wp
  cases hres : (toI P o).res σ with
  | bad => rw [hres] at h;exact h.elim
  | val p x =>
    rw [hres] at h hr
    obtain ⟨v,h1,h2⟩:=hr h.1
    rw [h1 w _ (Fr.refl _ _) Away.none]
    refine ⟨_,β,h.2,put S h2,?_⟩
    cases d <;> exact hN
  | st p σ' x =>
    rw [hres] at h hr
    rcases hr h.1 with ⟨v,w',h1,β',S',h2,h3⟩|⟨w',h1,β',S',h2,h3⟩ <;> rw [h1]
    · exact ⟨_,β',h.2,put S' h2,by have:=newer_st S hk hN hres h3;cases d <;> exact this⟩
    · exact ⟨_,β',h.2,put S' h2,by have:=newer_st S hk hN hres h3;cases d <;> exact this⟩
  | call p σ0 xs0 σb Bs σ' f As =>
    rw [hres] at h hr
    obtain ⟨h0,vs,hσ2,h1,Sb,hbs,S',h2,hblk⟩:=hr h.1
    subst σ0
    have mkN : ∀ {i : Nat},mkB n0 ws i = true → n0 ≤ i ∨ inL ws i = true:=fun {i} hi => by
      simp only [mkB,Bool.or_eq_true] at hi
      exact hi.imp Nat.le_of_ble_eq_true id
    rcases h.2 with ⟨r,hc,hk'⟩|⟨i,xs,xs',r,ht,hmk,hlen,hc,hk'⟩|⟨r,hc,hk'⟩|⟨l,ix,Hs,Q',hc,hn',hg,hix,hH,hmk,hk'⟩
    · rw [h1 w (Fr.refl _ _),run_callFunc hc.1]
      refine (call_ok S' hc h2).mono ?_
      rintro e w' ⟨v,rfl,hx,S2,hv,hv'⟩
      obtain ⟨σ2,β2,x,k1,k2,k3,k4,k5⟩:=after_ok Sb S2 hx hv hv' hk'
      refine ⟨_,_,k1,put k2 k3,?_⟩
      have hN' : Newer n0 ws W wb σ2.h β2 w':=by
        refine ⟨hN.fr.trans hx (fun _ _ h => h.elim),Nat.le_trans hN.len k5,fun i q' v' b hi g1 g2 g3 => ?_⟩
        rcases k4 i q' v' b g1 g2 g3 with h|⟨q,hq,h2,h3⟩
        · exact .inr (Nat.le_trans hN.fr.size h)
        · obtain ⟨q0,m1,m2⟩:=hblk i q hq
          exact hN.new i q0 v' b hi m1 h2 (m2 v' b h3)
      cases d <;> exact hN'
    · rw [h1 w (Fr.refl _ _),run_callFunc hc.1]
      rw [List.take_of_length_le (by rw [hlen,A.argL_length,VSimL.length h2];exact Nat.le_refl _)] at hbs
      refine (mcall_ok Sb ht hc hbs).mono ?_
      rintro e w' ⟨v,rfl,S2,hv,hfr1,hfr2⟩
      refine ⟨_,β,hk',put S2 hv,?_⟩
      have hN' : Newer n0 ws W wb (σb.h.set i (.tree xs')) β w':=by
        refine ⟨hN.fr.trans hfr1 (fun b hlt hb => ?_),hN.len,fun j q' v' b hj g1 g2 g3 => ?_⟩
        · obtain ⟨q,u,g1,g2,g3⟩:=hb
          obtain ⟨q0,m1,m2⟩:=hblk i q (.inl g1)
          rcases hN.new i q0 u b (mkN hmk) m1 g2 (m2 u b g3) with h|h
          · exact h
          · omega
        · obtain ⟨q,m1,m2⟩:=hfr2 j q' v' b g1 g2 g3
          obtain ⟨q0,m3,m4⟩:=hblk j q (.inl m1)
          exact hN.new j q0 v' b hj m3 g2 (m4 v' b m2)
      cases d <;> exact hN'
    · rw [h1 w (Fr.refl _ _),run_callFunc hc.1]
      refine (call_ok S' hc h2).mono ?_
      rintro e w' ⟨v,rfl,hx,S2,hv,hv'⟩
      obtain ⟨σ2,β2,x,k1,k2,k3,k4,k5⟩:=after_ok S S2 hx hv hv' hk'
      refine ⟨_,_,k1,put k2 k3,?_⟩
      have hN' : Newer n0 ws W wb σ2.h β2 w':=by
        refine ⟨hN.fr.trans hx (fun _ _ h => h.elim),Nat.le_trans hN.len k5,fun i q' v' b hi g1 g2 g3 => ?_⟩
        rcases k4 i q' v' b g1 g2 g3 with h|⟨q,hq,h2,h3⟩
        · exact .inr (Nat.le_trans hN.fr.size h)
        · rcases hq with hq|hq
          · exact hN.new i q v' b hi hq h2 h3
          · obtain ⟨q0,m1,m2⟩:=hblk i q (.inr hq)
            exact hN.new i q0 v' b hi m1 h2 (m2 v' b h3)
      cases d <;> exact hN'
    · rw [h1 w (Fr.refl _ _),run_callFunc hc.1]
      have Sl:=S.frzs l
      have hvl:=hσ2 _ Sl
      rw [List.take_of_length_le (by rw [← hn',A.argL_length,VSimL.length h2];exact Nat.le_refl _)] at hvl
      refine (hcall_ok Sl hix hH hc (peels_sim hg hvl)).mono ?_
      rintro e w' ⟨v,r,h',β',rfl,hQ,_,S2,hv,hfr,hbl,hle⟩
      refine ⟨_,β',hk' r h' hQ,put S2 hv,?_⟩
      have hmem : ∀ i,i ∈ ix → mkB n0 ws i = true:=allK_mem hmk
      have hN' : Newer n0 ws W wb (posH ix (σ.frzs l) h').h β' w':=by
        refine ⟨hN.fr.trans hfr (fun b hlt hb => ?_),Nat.le_trans hN.len hle,fun j q' v' b hj g1 g2 g3 => ?_⟩
        · obtain ⟨i,q,u,hi,g1,g2,g3⟩:=hb
          obtain ⟨q0,m1,m2⟩:=frzs_blk g1
          rcases hN.new i q0 u b (mkN (hmem i hi)) m1 g2 (m2 u b g3) with h|h
          · exact h
          · omega
        · rcases hbl j q' v' b g1 g2 g3 with h|⟨i,q,u,hi,m1,m2,m3⟩|⟨q,m1,m2,m3⟩
          · exact .inr (Nat.le_trans hN.fr.size h)
          · obtain ⟨q0,n1,n2⟩:=frzs_blk m1
            exact hN.new i q0 u b (mkN (hmem i hi)) n1 m2 (n2 u b m3)
          · obtain ⟨q0,n1,n2⟩:=frzs_blk m1
            exact hN.new j q0 v' b hj n1 m2 (n2 v' b m3)
      cases d <;> exact hN'
theorem rdO_rdI {j : Nat} (h : rdO σ o j = true) : rdI σ j (toI P o) = true:=by
  unfold rdO at h
  split at h
  · rename_i t p ho
    have hi : toI P o = ldI P t p:=by unfold toI;rw [ho]
    rw [hi]
    unfold ldI
    split
    · exact h
    · rfl
    · exact h
    · rfl
  · rename_i s d x ho
    have hi : toI P o = cvI P s d x:=by unfold toI;rw [ho]
    rw [hi]
    unfold cvI
    split
    · rfl
    · split <;> rfl
    · rfl
  · cases h
theorem clr_not {i : I} : ∀ {ws : List Nat},clr σ i ws = true → ∀ j,inL ws j = true → rdI σ j i = false
  | [],_,j,hj => by simp [inL] at hj
  | k :: ws,h,j,hj => by
    simp only [clr,Bool.and_eq_true,Bool.not_eq_true'] at h
    simp only [inL,Bool.or_eq_true] at hj
    rcases hj with hj|hj
    · have:=Nat.eq_of_beq_eq_true hj
      subst this
      exact h.1
    · exact clr_not h.2 j hj
theorem away_ws {ws : List Nat} (h : clr σ (toI P o) ws = true) : Away σ o β w (Wb ws σ.h β):=by
  rintro b ⟨i,q,v,h1,h2,h3,h4⟩
  refine ⟨i,q,v,h2,h3,h4,?_⟩
  cases hr : rdO σ o i with
  | false => rfl
  | true => have:=rdO_rdI (P:=P) hr;rw [clr_not h i h1] at this;cases this
theorem gopV_ok {n : Nat} {ws : List Nat} (S : Sim c σ β a w) (hcn : c.n = n) {K : St → Prop} {ops : Array Oper} (hclr : clr σ (toG P n ops o).i ws = true) (h : gopV σ K (toG P n ops o)) :
    ∃ v,YieldsIf P ops (Fr (Wb ws σ.h β) w) o v a ∧ ∃ σ',K σ' ∧ Sim c σ' β (a.put o.dst v) w ∧ σ'.h = σ.h:=by
  subst hcn
  have val : ∀ {p : Prop} {x : A},(toI P o).res σ = .val p x → clr σ (toI P o) ws = true → p → ∃ v,(∀ w',Fr (Wb ws σ.h β) w w' → (execOp a.eval o).run P w' = .ok (.value v) w') ∧ VSim w (okOf c w σ.h β) c.lo β x v:=by
    intro p x hres hcl hp
    have hr:=res_ok (P:=P) S o
    rw [hres] at hr
    obtain ⟨v,h1,h2⟩:=hr hp
    exact ⟨v,fun w' hw => h1 w' _ hw (away_ws hcl),h2⟩
  have hput : ∀ {x : A} {d : Option Nat},(σ.putO d x).h = σ.h:=fun {x d} => by cases d <;> rfl
  rcases toG_cases (P:=P) (n:=c.n) (ops:=ops) o with hbad|⟨hd,hi,hdn,hg⟩
  · rw [hbad] at h
    simp only [gopV,I.res,Res.goV] at h
  · rw [hi] at hclr
    unfold gopV at h
    rw [hd,hi] at h
    rcases hg with ⟨hg,hg'⟩|⟨j,want,t,hg,hj,htn,hg'⟩
    · rw [hg'] at h
      simp only at h
      cases hres : (toI P o).res σ with
      | val p x =>
        rw [hres] at h
        obtain ⟨v,h1,h2⟩:=val hres hclr h.1
        exact ⟨v,.inl ⟨by simp [Region.wanted,hg],h1⟩,_,h.2,S.putO hdn h2,hput⟩
      | _ => rw [hres] at h;exact h.elim
    · rw [hg'] at h
      simp only at h
      have htmp:=S.tmp t
      split at h
      · rename_i o1 b hb
        rw [hb] at htmp
        have hv:=vbool htmp
        have hy:=yielded_of S hj htn hv
        have hw : Region.wanted o (yielded ops a.tmps) = bsel want b:=by simp only [Region.wanted,hg,hy];exact bsel_eq want b
        split at h
        · rename_i p x hres
          cases hs : bsel want b with
          | true =>
            rw [hs] at h
            obtain ⟨v,h1,h2⟩:=val hres hclr (h.1 rfl)
            exact ⟨v,.inl ⟨hw.trans hs,h1⟩,_,h.2,S.putO hdn (by simp only [VSim];exact ⟨fun _ => h2,fun h => by cases h⟩),hput⟩
          | false =>
            rw [hs] at h
            exact ⟨undef,.inr ⟨hw.trans hs,rfl⟩,_,h.2,S.putO hdn (by simp [VSim]),hput⟩
        · obtain ⟨hs,h⟩:=h
          have hbw : b = !want:=by revert hs;cases want <;> cases b <;> simp [bsel]
          have S1 : Sim c (σ.put t (.d true (.bool (!want)))) β a w:=S.re (d:=t) (x:=.d true (.bool (!want))) (by rw [hv,hbw];exact vsim_bool _)
          exact ⟨undef,.inr ⟨hw.trans hs,rfl⟩,_,h,S1.putO hdn (by simp [VSim]),by cases o.dst <;> rfl⟩
      · rename_i g' o1 b hb
        split at h
        · rename_i p x hres
          rw [hb] at htmp
          simp only [VSim] at htmp
          cases hg1 : g' with
          | false =>
            rw [hg1] at h
            simp only [Bool.false_and] at h
            rw [hg1] at htmp
            have hy:=yielded_undef S hj htn (htmp.2 rfl) (fun b => by simp [undef])
            exact ⟨undef,.inr ⟨by simp [Region.wanted,hg,hy],rfl⟩,_,h.2,S.putO hdn (by simp [VSim]),hput⟩
          | true =>
            rw [hg1] at h htmp
            simp only [Bool.true_and,true_implies] at h
            have hv:=vbool (o:=o1) (htmp.1 rfl)
            have hy:=yielded_of S hj htn hv
            have hw : Region.wanted o (yielded ops a.tmps) = bsel want b:=by simp only [Region.wanted,hg,hy];exact bsel_eq want b
            cases hs : bsel want b with
            | true =>
              rw [hs] at h
              obtain ⟨v,h1,h2⟩:=val hres hclr (h.1 rfl)
              exact ⟨v,.inl ⟨hw.trans hs,h1⟩,_,h.2,S.putO hdn (by simp only [VSim];exact ⟨fun _ => h2,fun h => by cases h⟩),hput⟩
            | false =>
              rw [hs] at h
              exact ⟨undef,.inr ⟨hw.trans hs,rfl⟩,_,h.2,S.putO hdn (by simp [VSim]),hput⟩
        · exact h.elim
      · exact h.elim
theorem wpAnyH_weak {ops : Array Oper} {Q : Exit → Act → World → Prop} {T T' : World → Prop} (hT : ∀ w,T w → T' w) : ∀ (fuel : Nat) (listed : Array Bool) (a : Act) (w : World),wpAnyH P .any ops Q T fuel listed a w → wpAnyH P .any ops Q T' fuel listed a w
  | 0,_,_,_,h => h
  | fuel + 1,_,_,_,h => ⟨h.1,fun i hi => wpOp_mono (fun a' w' h' => ⟨hT _ h'.1,wpAnyH_weak hT fuel _ a' w' h'.2⟩) (h.2 i hi)⟩
theorem inL_rmv {j k : Nat} : ∀ {l : List Nat},inL (rmv j l) k = true → inL l k = true ∧ Nat.beq j k = false
  | [],h => by simp [rmv,inL] at h
  | x :: l,h => by
    simp only [rmv] at h
    cases hx : Nat.beq x j with
    | true =>
      rw [hx] at h
      have:=inL_rmv (l:=l) h
      exact ⟨by simp [inL,this.1],this.2⟩
    | false =>
      rw [hx] at h
      simp only [cond_false,inL,Bool.or_eq_true] at h
      rcases h with h|h
      · have:=Nat.eq_of_beq_eq_true h
        subst this
        refine ⟨by simp [inL],?_⟩
        exact beq_no (fun e => by subst e;rw [Nat.beq_refl] at hx;cases hx)
      · have:=inL_rmv (l:=l) h
        exact ⟨by simp [inL,this.1],this.2⟩
theorem wsI_in {i : I} {l : List Nat} {k : Nat} : inL (wsI σ l i) k = true → inL l k = true:=by
  intro h
  unfold wsI at h
  split at h
  · split at h
    · exact (inL_rmv h).1
    · exact (inL_rmv h).1
    · exact h
  · simp [inL] at h
  · simp [inL] at h
  · simp [inL] at h
  · exact h
theorem clr_all {i : I} : ∀ {l : List Nat},(∀ j,inL l j = true → rdI σ j i = false) → clr σ i l = true
  | [],_ => rfl
  | k :: l,h => by
    simp only [clr,Bool.and_eq_true,Bool.not_eq_true']
    exact ⟨h k (by simp [inL]),clr_all fun j hj => h j (by simp [inL,hj])⟩
theorem clr_wsI (i : I) (l : List Nat) : clr σ i (wsI σ l i) = true:=by
  refine clr_all fun j hj => ?_
  unfold wsI at hj
  split at hj
  · rename_i p
    simp only [rdI]
    split at hj
    · exact (inL_rmv hj).2
    · exact (inL_rmv hj).2
    · rfl
  · simp [inL] at hj
  · simp [inL] at hj
  · simp [inL] at hj
  · rename_i h1 h2 h3 h4
    cases i <;> first|rfl|(exfalso;first|exact h1 _ _ rfl|exact h2 _ _ rfl|exact h3 _ rfl|exact h4 rfl)
theorem inL_app {k : Nat} : ∀ {l l' : List Nat},inL (l ++ l') k = true → inL l k = true ∨ inL l' k = true
  | [],l',h => .inr h
  | x :: l,l',h => by
    simp only [List.cons_append,inL,Bool.or_eq_true] at h ⊢
    rcases h with h|h
    · exact .inl (.inl h)
    · rcases inL_app h with h|h
      · exact .inl (.inr h)
      · exact .inr h
theorem inL_rng {k : Nat} : ∀ {m n : Nat},inL (rng m n) k = true → n ≤ k
  | 0,n,h => by simp [rng,inL] at h
  | m + 1,n,h => by
    simp only [rng,inL,Bool.or_eq_true] at h
    rcases h with h|h
    · have:=Nat.eq_of_beq_eq_true h;omega
    · have:=inL_rng h;omega
def oneT (P : Program) (K : St → Prop) (g : G) (r : Tr) (n0 : Nat) (ws : List Nat) (σ : St) : Prop:=match g.g with
  | none => keeps n0 ws σ g.i ∧ (g.i.res σ).go P (mkB n0 ws) g.d σ (awpT P K r n0 ws)
  | some (t,want) => match lkp σ.t t with
    | .d _ (.bool b) => (bsel want b = true → keeps n0 ws (σ.put t (.d true (.bool want))) g.i ∧ (g.i.res (σ.put t (.d true (.bool want)))).go P (mkB n0 ws) g.d (σ.put t (.d true (.bool want))) (awpT P K r n0 ws)) ∧
        (bsel want b = false → awpT P K r n0 ws ((σ.put t (.d true (.bool (!want)))).putO g.d .any))
    | _ => False
theorem awpTs_mem {K : St → Prop} {n0 : Nat} {ws : List Nat} {g : Nat → G} {k : Nat → Tr} : ∀ {l : List Nat},awpTs P K (mkTrs g k l) n0 ws σ → ∀ i,i ∈ l → oneT P K (g i) (k i) n0 ws σ
  | [],_,i,hi => by cases hi
  | j :: l,h,i,hi => by
    simp only [mkTrs,awpTs] at h
    rcases List.mem_cons.1 hi with rfl|hi
    · exact h.1
    · exact awpTs_mem h.2 i hi
theorem tree_ok {ops : Array Oper} {K : St → Prop} {Q : Exit → Act → World → Prop} (hsel : Region.noSelect ops = true) (hQ : ∀ a w,SK c K a w → Q .normal a w) (hp : ∀ ch a w,¬ Q (.panic ch) a w) :
    ∀ (fuel : Nat) (listed : Array Bool) (n0 : Nat) (ws : List Nat) (W : Nat → Prop) (σ : St) (β : List Value) (a : Act) (w wb : World),Sim c σ β a w → Newer n0 ws W wb σ.h β w → awpT P K (mkTr P c.n ops fuel listed) n0 ws σ → wpAnyH P .any ops Q (Fr W wb) fuel listed a w
  | 0,listed,n0,ws,W,σ,β,a,w,wb,S,hN,h => by
    unfold mkTr at h
    cases hr : (Region.ready .any ops listed).isEmpty with
    | true =>
      rw [hr] at h
      simp only [cond_true,awpT] at h
      exact ⟨List.isEmpty_iff.1 hr,hQ _ _ ⟨σ,β,h,S⟩⟩
    | false =>
      rw [hr] at h
      simp only [cond_false,awpT,gopV,I.res,Res.goV,and_false] at h
  | fuel + 1,listed,n0,ws,W,σ,β,a,w,wb,S,hN,h => by
    unfold mkTr at h
    split at h
    · rename_i hr
      simp only [awpT] at h
      exact ⟨fun _ => hQ _ _ ⟨σ,β,h,S⟩,by rw [hr];simp⟩
    · rename_i rs hne
      split at h
      · rename_i i hf
        have hmem:=List.mem_of_find?_eq_some hf
        have htk:=List.find?_some hf
        simp only [awpT] at h
        simp only [takes,Bool.and_eq_true] at htk
        obtain ⟨htk1,htk2⟩:=htk
        cases hi : ops[i]? with
        | none => rw [hi] at htk1;cases htk1
        | some oi =>
          simp only [gAt,hi] at h
          have hcl : clr σ (toG P c.n ops oi).i (wsN σ (toG P c.n ops oi).i n0 ws) = true:=clr_wsI _ _
          generalize hws : wsN σ (toG P c.n ops oi).i n0 ws = ws' at h hcl
          obtain ⟨v,hy,σ',hk,S',hh⟩:=gopV_ok (P:=P) (ws:=ws') S rfl hcl h
          have hN' : Newer σ.h.length ws' (Wb ws' σ.h β) w σ'.h β w:=by
            refine ⟨Fr.refl _ _,by rw [S.len];exact Nat.le_refl _,fun i q v' b hi h1 h2 h3 => ?_⟩
            rw [hh] at h1
            rcases hi with hi|hi
            · have:=(List.getElem?_eq_some_iff.1 h1).1
              omega
            · exact .inl ⟨i,q,v',hi,h1,h2,h3⟩
          have hsub : ∀ b,b < wb.heap.size → Wb ws' σ.h β b → W b:=by
            rintro b hlt ⟨i,q,v',h1,h2,h3,h4⟩
            have h0 : n0 ≤ i ∨ inL ws i = true:=by
              have hin : inL (ws ++ rng (σ.h.length - n0) n0) i = true:=by rw [← hws] at h1;exact wsI_in h1
              rcases inL_app hin with h|h
              · exact .inr h
              · exact .inl (inL_rng h)
            rcases hN.new i q v' b h0 h2 h3 h4 with h|h
            · exact h
            · omega
          refine wpAnyH_weak (fun w' hw' => hN.fr.trans hw' hsub) _ _ _ _ (wpAnyH_take (S:=Fr (Wb ws' σ.h β) w) hi hsel htk2 (by simpa using hmem) (fun ch a' w' hq => absurd hq (hp ch _ w')) hy (Fr.refl _ _) ?_)
          exact tree_ok hsel hQ hp fuel _ _ ws' _ σ' β _ w w S' hN' hk
      · simp only [awpT] at h
        refine ⟨fun h0 => absurd h0 (by intro h1;exact hne h1),fun i hi => ?_⟩
        have hone:=awpTs_mem h i hi
        have hrec : ∀ {σ' : St} {β' : List Value} {a' : Act} {w' : World},Sim c σ' β' a' w' → Newer n0 ws W wb σ'.h β' w' → awpT P K (mkTr P c.n ops fuel (listed.setIfInBounds i true)) n0 ws σ' → Fr W wb w' ∧ wpAnyH P .any ops Q (Fr W wb) fuel (listed.setIfInBounds i true) a' w' :=
          fun S' hN' h' => ⟨hN'.fr,tree_ok hsel hQ hp fuel _ n0 ws W _ _ _ _ wb S' hN' h'⟩
        cases hoi : ops[i]? with
        | none =>
          simp only [oneT,gAt,hoi,keeps,false_and] at hone
        | some oi =>
          simp only [gAt,hoi] at hone
          unfold wpOp
          simp only [hoi]
          rcases toG_cases (P:=P) (n:=c.n) (ops:=ops) oi with hbad|⟨hd,hi',hdn,hgg⟩
          · rw [hbad] at hone
            simp only [oneT,keeps,false_and] at hone
          · unfold oneT at hone
            rw [hd,hi'] at hone
            rcases hgg with ⟨hg1,hg2⟩|⟨j,want,t,hg1,hj,htn,hg2⟩
            · rw [hg2] at hone
              simp only at hone
              have:=goE_ok (P:=P) (Q:=Q) S rfl hdn hone.1 hN hone.2
              rw [if_pos (by simp [Region.wanted,hg1])]
              refine .inl (Oper.wp_mono ?_ this)
              rintro a' w' ⟨σ',β',h',S',hN'⟩
              exact hrec S' hN' h'
            · rw [hg2] at hone
              simp only at hone
              have htmp:=S.tmp t
              split at hone
              · rename_i o1 b hb
                rw [hb] at htmp
                have hv:=vbool htmp
                have hy:=yielded_of S hj htn hv
                have hw : Region.wanted oi (yielded ops a.tmps) = bsel want b:=by simp only [Region.wanted,hg1,hy];exact bsel_eq want b
                rw [hw]
                cases hs : bsel want b with
                | true =>
                  have hbw : b = want:=by revert hs;cases want <;> cases b <;> simp [bsel]
                  rw [if_pos rfl]
                  obtain ⟨hkp,hgo⟩:=hone.1 hs
                  have S1 : Sim c (σ.put t (.d true (.bool want))) β a w:=S.re (d:=t) (x:=.d true (.bool want)) (by rw [hv,hbw];exact vsim_bool _)
                  have:=goE_ok (P:=P) (Q:=Q) S1 rfl hdn hkp hN hgo
                  refine .inl (Oper.wp_mono ?_ this)
                  rintro a' w' ⟨σ',β',h',S',hN'⟩
                  exact hrec S' hN' h'
                | false =>
                  have hbw : b = !want:=by revert hs;cases want <;> cases b <;> simp [bsel]
                  rw [if_neg (by simp)]
                  have S1 : Sim c (σ.put t (.d true (.bool (!want)))) β a w:=S.re (d:=t) (x:=.d true (.bool (!want))) (by rw [hv,hbw];exact vsim_bool _)
                  have hN1 : Newer n0 ws W wb ((σ.put t (.d true (.bool (!want)))).putO oi.dst .any).h β w:=by cases oi.dst <;> exact hN
                  exact hrec (S1.putO hdn (by simp [VSim])) hN1 (hone.2 hs)
              · exact hone.elim
def Qx (c : Cx) (Q : Ex → St → Prop) : Exit → Act → World → Prop
  | .normal,a,w => SK c (Q .norm) a w
  | .exit id,a,w => SK c (Q (.exit id)) a w
  | .ret,a,w => SK c (Q .ret) a w
  | _,_,_ => False
def lexOk (keep : Nat → List Nat) : Code → Bool
  | .region id ops true => bif treed keep id then Region.noSelect ops else Region.lexB .any ops
  | .seq x y => lexOk keep x && lexOk keep y
  | .cond _ t e => lexOk keep t && lexOk keep e
  | .block _ x => lexOk keep x
  | .loop x => lexOk keep x
  | _ => true
theorem awp_ok (hm : P.follows .mixedOrders = true) (keep : Nat → List Nat) : ∀ (x : Code) (Q : Ex → St → Prop) (σ : St) (β : List Value) (a : Act) (w : World),lexOk keep x = true → Sim c σ β a w → awp P (toAC P c.n keep x) Q σ → x.wp P (Qx c Q) a w
  | .skip,Q,σ,β,a,w,_,S,h => wp_skip ⟨σ,β,h,S⟩
  | .ret,Q,σ,β,a,w,_,S,h => wp_ret ⟨σ,β,h,S⟩
  | .exit id,Q,σ,β,a,w,_,S,h => wp_exit ⟨σ,β,h,S⟩
  | .region id ops false,Q,σ,β,a,w,_,S,h => by
    refine wp_region_list (aops_ok (K:=fun σ' => Q .norm (σ'.keep (keep id))) ?_ ops.toList σ β a w S h)
    rintro a' w' ⟨σ',β',h',S'⟩
    exact ⟨_,β',h',S'.keep _⟩
  | .region id ops true,Q,σ,β,a,w,hx,S,h => by
    have S1 : Sim c σ β a { w with drawn:=w.drawn + 1 }:=S.ext (Fr.drew w)
    simp only [toAC] at h
    simp only [lexOk] at hx
    cases htr : treed keep id with
    | true =>
      rw [htr] at h hx
      simp only [cond_true] at h hx
      have hN0 : Newer 0 [] (fun b => ∃ (i : Nat) (q : O) (v : Value),σ.h[i]? = some q ∧ β[i]? = some v ∧ b ∈ blkOf q v) { w with drawn:=w.drawn + 1 } σ.h β { w with drawn:=w.drawn + 1 } :=
        ⟨Fr.refl _ _,Nat.zero_le _,fun i q v b hi h1 h2 h3 => .inl ⟨i,q,v,h1,h2,h3⟩⟩
      refine wp_region_held (S:=Fr (fun b => ∃ (i : Nat) (q : O) (v : Value),σ.h[i]? = some q ∧ β[i]? = some v ∧ b ∈ blkOf q v) { w with drawn:=w.drawn + 1 }) hm ?_
      refine tree_ok (c:=c) (K:=fun σ' => Q .norm (σ'.keep (keep id))) hx ?_ (fun _ _ _ h => h) ops.size _ 0 [] _ σ β a _ _ S1 hN0 h
      rintro a' w' ⟨σ',β',h',S'⟩
      exact ⟨_,β',h',S'.keep _⟩
    | false =>
    rw [htr] at h hx
    simp only [cond_false] at h hx
    refine wp_region_quiet (C:=Ext { w with drawn:=w.drawn + 1 }) hm hx (Fr.refl _ _) ?_
    refine aopsQ_ok (w:={ w with drawn:=w.drawn + 1 }) (K:=fun σ' => Q .norm (σ'.keep (keep id))) ?_ ops.toList σ β a S1 h
    intro σ' β' a' S' h' w' hw'
    exact ⟨_,β',h',(S'.ext hw').keep _⟩
  | .seq x y,Q,σ,β,a,w,hx,S,h => by
    simp only [lexOk,Bool.and_eq_true] at hx
    simp only [toAC,awp] at h
    obtain ⟨K,hK,h⟩:=h
    refine wp_seq (Code.wp_mono ?_ (awp_ok hm keep x _ σ β a w hx.1 S h))
    intro e a' w' he
    cases e with
    | normal =>
      obtain ⟨σ',β',h',S'⟩:=he
      obtain ⟨σ2,hσ,hk⟩:=hK σ' h'
      rcases hσ with rfl|hσ|⟨l,hσ⟩
      · exact awp_ok hm keep y Q σ2 β' a' w' hx.2 S' hk
      · exact awp_ok hm keep y Q σ2 _ a' w' hx.2 (S'.le hσ) hk
      · exact awp_ok hm keep y Q σ2 _ a' w' hx.2 ((S'.frzs l).le hσ) hk
    | _ => exact he
  | .cond x t e,Q,σ,β,a,w,hx,S,h => by
    simp only [lexOk,Bool.and_eq_true] at hx
    simp only [toAC,awp] at h
    have hev:=S.ev x
    split at h
    · rename_i o1 b hb
      rw [hb] at hev
      have hv:=vbool hev
      cases b with
      | true => exact wp_cond_true hv (awp_ok hm keep t Q σ β a w hx.1 S (h.1 rfl))
      | false => exact wp_cond_false hv (awp_ok hm keep e Q σ β a w hx.2 S (h.2 rfl))
    · exact h.elim
  | .block id x,Q,σ,β,a,w,hx,S,h => by
    simp only [lexOk] at hx
    simp only [toAC,awp] at h
    refine wp_block (Code.wp_mono ?_ (awp_ok hm keep x _ σ β a w hx S h))
    intro e a' w' he
    cases e with
    | exit j =>
      obtain ⟨σ',β',h',S'⟩:=he
      simp only [blockK] at h'
      simp only [Exit.inBlock]
      by_cases hj : j = id
      · subst hj
        rw [Nat.beq_refl] at h'
        rw [if_pos rfl]
        exact ⟨σ',β',h',S'⟩
      · rw [beq_no hj] at h'
        rw [if_neg hj]
        exact ⟨σ',β',h',S'⟩
    | _ => exact he
  | .loop x,Q,σ,β,a,w,hx,S,h => by
    simp only [lexOk] at hx
    simp only [toAC,awp] at h
    obtain ⟨ι,I,μ,⟨i0,h0⟩,hround⟩:=h
    intro b k cs
    have key : ∀ (n : Nat) (i : ι) (β : List Value) (a : Act) (w : World),μ i = n → Sim c (I i) β a w →
        ∃ e a' w',Qx c Q e a' w' ∧ Arrives P (lone (b.at a (.code x :: .inLoop x :: k)) cs w) b k cs e a' w':=by
      intro n
      induction n using Nat.strongRecOn with
      | _ n ih =>
        intro i β a w hn S
        obtain ⟨e,a1,w1,hq,harr⟩:=awp_ok hm keep x _ (I i) β a w hx S (hround i) b (.inLoop x :: k) cs
        cases e with
        | normal =>
          obtain ⟨σ',β',⟨j,hlt,hle⟩,S'⟩:=hq
          obtain ⟨e2,a2,w2,hq2,harr2⟩:=ih (μ j) (by omega) j _ a1 w1 rfl (S'.le hle)
          exact ⟨e2,a2,w2,hq2,.of_steps (Steps.trans harr (.one step_inLoop)) harr2⟩
        | exit id => exact ⟨_,a1,w1,(show Qx c Q (.exit id) a1 w1 from hq),.pass (x:=.inLoop x) rfl (fun _ _ => .inl (by simp)) harr⟩
        | goto l => exact hq.elim
        | ret => exact ⟨_,a1,w1,(show Qx c Q .ret a1 w1 from hq),.pass (x:=.inLoop x) rfl (fun _ _ => .inl (by simp)) harr⟩
        | panic ch => exact hq.elim
        | outgrown => exact hq.elim
    obtain ⟨e,a',w',hq,harr⟩:=key _ i0 _ a w rfl (S.le h0)
    exact ⟨e,a',w',hq,.of_steps (.one step_loop) harr⟩
  | .rangeFunc _ _ _ _,Q,σ,β,a,w,_,S,h => h.elim
  | .scope _,Q,σ,β,a,w,_,S,h => h.elim
  | .label _,Q,σ,β,a,w,_,S,h => h.elim
  | .goto _,Q,σ,β,a,w,_,S,h => h.elim
  | .refuse _,Q,σ,β,a,w,_,S,h => h.elim
end
inductive RV where
  | t (n : Nat)
  | c (n : Nat) (sz : Option Nat)
  | bad
def toRV (P : Program) : ResultVar → RV
  | .tmp t => .t t
  | .cell p t => match P.underlying t with
    | some (.struct _) => .c p (some (P.cellsOf t))
    | some (.array _ _) => .bad
    | some _ => .c p none
    | none => .bad
def RV.ev (σ : St) : RV → Option A
  | .t n => some (lkp σ.t n)
  | .c p none => match lkp σ.t p with
    | .ptr i off => match σ.h[i]? with
      | some (.box cells) => cells[off]?
      | _ => none
    | _ => none
  | .c p (some n) => match lkp σ.t p with
    | .ptr i off => match σ.h[i]? with
      | some (.box cells) => bif Nat.ble (off + n) cells.length then some (.agg ((cells.drop off).take n)) else none
      | _ => none
    | _ => none
  | .bad => none
def evRs (σ : St) : List RV → Option (List A)
  | [] => some []
  | x :: r => match x.ev σ,evRs σ r with
    | some y,some l => some (y :: l)
    | _,_ => none
def tupA : List A → A
  | [x] => x
  | xs => .tup xs
def aret (rs : List RV) (r : A) (σ : St) : Prop :=
  match evRs σ rs with
  | some l => match evRs ((σ.frzs (A.idsL l)).frzs (tids l)) rs with
    | some l' => A.Le (tupA l') r
    | none => False
  | none => False
def Post (rs : List RV) (r : A) : Ex → St → Prop
  | .exit _,_ => False
  | .norm,σ => aret rs r σ
  | .ret,σ => aret rs r σ
def enumT : Nat → List A → List (Nat × A)
  | _,[] => []
  | k,x :: xs => (k,x) :: enumT (k + 1) xs
section
variable {P : Program} {c : Cx} {σ : St} {β : List Value} {a : Act} {w w' : World} {o : Oper} [hcx : Nonempty (CxOk c)]
theorem rv_ok (S : Sim c σ β a w) {rv : ResultVar} {y : A} (h : (toRV P rv).ev σ = some y) :
    ∃ v,(match rv with|.tmp t => (pure (a.tmps.getD t undef) : Sem Value)|.cell p t => do loadVar t (← asAddr (a.tmps.getD p undef))).run P w = .ok v w ∧ VSim w (okOf c w σ.h β) c.lo β y v:=by
  have _:=hcx
  cases rv with
  | tmp t =>
    simp only [toRV,RV.ev,Option.some.injEq] at h
    subst h
    exact ⟨_,rfl,S.tmp t⟩
  | cell p t =>
    have htmp:=S.tmp p
    simp only [toRV] at h
    split at h
    · rename_i fs hu
      simp only [RV.ev] at h
      split at h
      · rename_i i off hp
        split at h
        · rename_i cells hobj
          cases hb : Nat.ble (off + P.cellsOf t) cells.length with
          | false => rw [hb] at h;cases h
          | true =>
            rw [hb] at h
            simp only [cond_true,Option.some.injEq] at h
            subst h
            have hb:=Nat.le_of_ble_eq_true hb
            rw [hp] at htmp
            obtain ⟨b,h1,h2⟩:=htmp
            obtain ⟨vs,ty,h3,h4⟩:=box_of S hobj h1
            have hs:=(h4.drop off).take (P.cellsOf t)
            have hl : ((vs.drop off).take (P.cellsOf t)).length = P.cellsOf t:=by
              rw [List.length_take,List.length_drop,VSimL.length h4]
              omega
            refine ⟨.agg ((vs.drop off).take (P.cellsOf t)).toArray,?_,by simp only [VSim];exact ⟨_,rfl,hs⟩⟩
            have:=run_loadn (P:=P) (w:=w) hu (b:=b) (o:=off) hl (fun j v hv => by
              rw [cell_box h3]
              rw [List.getElem?_take] at hv
              split at hv
              · rwa [List.getElem?_drop] at hv
              · cases hv)
            simp only [Instr.loadAt,Instr.sureAddr,Sem.run_bind,Sem.run_pure,Result.andThen_ok] at this
            simp only [h2,asAddr,Sem.run_bind,Sem.run_pure,Result.andThen_ok,this]
        · cases h
      · cases h
    · cases h
    · rename_i d n1 n2 hu
      simp only [RV.ev] at h
      split at h
      · rename_i i off hp
        split at h
        · rename_i cells hobj
          rw [hp] at htmp
          obtain ⟨b,h1,h2⟩:=htmp
          obtain ⟨vs,ty,h3,h4⟩:=box_of S hobj h1
          obtain ⟨u,hu',hs⟩:=h4.get h
          have:=run_load1 (P:=P) hu (by cases d <;> first|rfl|exact absurd rfl (n1 _)|exact absurd rfl (n2 _ _)) ((cell_box h3 off).trans hu')
          simp only [Instr.loadAt,Instr.sureAddr,Sem.run_bind,Sem.run_pure,Result.andThen_ok] at this
          exact ⟨u,by simp only [h2,asAddr,Sem.run_bind,Sem.run_pure,Result.andThen_ok,this],hs⟩
        · cases h
      · cases h
    · cases h
def rvRun (tmps : Array Value) : ResultVar → Sem Value
  | .tmp t => pure (tmps.getD t undef)
  | .cell a t => do loadVar t (← asAddr (tmps.getD a undef))
theorem rvs_ok (S : Sim c σ β a w) : ∀ (rs : List ResultVar) (l : List A),evRs σ (rs.map (toRV P)) = some l → ∃ vs : List Value,(rs.mapM (rvRun a.tmps)).run P w = .ok vs w ∧ VSimL w (okOf c w σ.h β) c.lo β l vs
  | [],l,h => by
    simp only [List.map_nil,evRs,Option.some.injEq] at h
    subst h
    exact ⟨[],rfl,by simp [VSimL]⟩
  | x :: rs,l,h => by
    simp only [List.map_cons,evRs] at h
    split at h
    · rename_i y l' h1 h2
      simp only [Option.some.injEq] at h
      subst h
      obtain ⟨v,hv,hs⟩:=rv_ok (P:=P) S h1
      obtain ⟨vs,hvs,hss⟩:=rvs_ok S rs l' h2
      refine ⟨v :: vs,?_,by simp only [VSimL];exact ⟨hs,hss⟩⟩
      have hv' : (rvRun a.tmps x).run P w = .ok v w:=by cases x <;> exact hv
      simp only [List.mapM_cons,Sem.run_bind,hv',Result.andThen_ok,hvs,Sem.run_pure]
    · cases h
theorem results_ok (S : Sim c σ β a w) {fn : Func} {r : A} (h : aret (fn.results.toList.map (toRV P)) r σ) :
    ∃ v σ' ,(results fn a.tmps).run P w = .ok v w ∧ Sim c σ' β a w ∧ VSim w (okOf c w σ'.h β) c.lo β r v:=by
  unfold aret at h
  split at h
  · rename_i l hl
    split at h
    · rename_i l' hl'
      have S':=(S.frzs (A.idsL l)).frzs (tids l)
      obtain ⟨vs,hvs,hss⟩:=rvs_ok (P:=P) S' _ l' hl'
      have hrun : (results fn a.tmps).run P w = .ok (if h : vs.toArray.size = 1 then vs.toArray[0] else .tuple vs.toArray) w:=by
        show (do let vs ← fn.results.mapM (rvRun a.tmps);pure (if h : vs.size = 1 then vs[0] else .tuple vs) : Sem Value).run P w = _
        rw [Sem.run_bind,Array.mapM_eq_mapM_toList,map_eq_pure_bind,Sem.run_bind,hvs]
        rfl
      refine ⟨_,_,hrun,S',VSim.le h ?_⟩
      cases l' with
      | nil =>
        cases vs with
        | nil => simp only [tupA];simp only [VSim];exact ⟨[],by simp,hss⟩
        | cons v vs => simp [VSimL] at hss
      | cons y l' =>
        cases vs with
        | nil => simp [VSimL] at hss
        | cons v vs =>
          cases l' with
          | nil =>
            simp only [VSimL] at hss
            cases vs with
            | nil => simp only [tupA];simpa using hss.1
            | cons v' vs => simp [VSimL] at hss
          | cons y' l' =>
            cases vs with
            | nil => simp only [VSimL] at hss;exact hss.2.elim
            | cons v' vs => simp only [tupA,VSim];exact ⟨_,by simp,hss⟩
    · exact h.elim
  · exact h.elim
theorem enumT_lkp : ∀ (As : List A) (k j : Nat),lkp (enumT k As) j = if k ≤ j then (As[j - k]?).getD .any else .any
  | [],k,j => by simp [enumT,lkp]
  | x :: As,k,j => by
    simp only [enumT,lkp]
    by_cases h : k = j
    · subst h;rw [Nat.beq_refl];simp
    · rw [beq_no h,cond_false,enumT_lkp As (k + 1) j]
      by_cases h1 : k + 1 ≤ j
      · rw [if_pos h1,if_pos (by omega),show j - k = (j - (k + 1)) + 1 by omega,List.getElem?_cons_succ]
      · rw [if_neg h1,if_neg (by omega)]
theorem ct_of (hm : P.follows .mixedOrders = true) {f : FuncId} {fn : Func} {code : Code} {n : Nat} {As : List A} {r : A} (keep : Nat → List Nat) {ac : AC} {rs : List RV}
    (hf : P.funcs[f]? = some fn) (hname : (fn.name == "runtime.NumGoroutine") = false) (hb : fn.body = some code) (hn : fn.ntmps = n) (hlex : lexOk keep code = true)
    (hac : toAC P n keep code = ac) (hrs : fn.results.toList.map (toRV P) = rs) (hAs : As.length ≤ n) (hr : r.free (fun _ => false) = true)
    (h : awp P ac (Post rs r) ⟨enumT 0 As,[]⟩) : Ct P f As r:=by
  refine ⟨⟨fn,hf,hname,by rw [hb];rfl⟩,fun w ok vs hL hok hv => ?_⟩
  subst hac;subst hrs;subst hn
  have hvl:=VSimL.length hv
  let c : Cx:={ w0:=w,ok0:=ok,B0:=fun _ => False,n:=fn.ntmps,lo:=w.heap.size,hlo:=Nat.le_refl _ }
  have hcx : Nonempty (CxOk c):=⟨⟨hL,fun _ h => h.elim,hL.1⟩⟩
  have S : Sim c ⟨enumT 0 As,[]⟩ [] { tmps:=vs.toArray ++ Array.replicate (fn.ntmps - vs.toArray.size) undef,defers:=[] } w:=by
    refine ⟨rfl,by simp [c];omega,Fr.refl _ _,rfl,by simp,by simp,by simp,by simp,fun j => ?_⟩
    show VSim _ _ _ _ (lkp (enumT 0 As) j) _
    rw [enumT_lkp,if_pos (Nat.zero_le _),Nat.sub_zero]
    cases hj : As[j]? with
    | none => simp [VSim]
    | some x =>
      obtain ⟨v,hv1,hv2⟩:=hv.get hj
      have hjl:=(List.getElem?_eq_some_iff.1 hv1).1
      have hg : (vs.toArray ++ Array.replicate (fn.ntmps - vs.toArray.size) undef).getD j undef = v:=by
        rw [Array.getD_eq_getD_getElem?,Array.getElem?_append_left (by simpa using hjl)]
        simp [hv1]
      simp only [Option.getD_some]
      rw [hg]
      exact hv2.move (p:=fun _ => true) (fun b hb => ⟨⟨hok b hb,.inl hb,by simp⟩,rfl⟩) (Nat.le_refl _) (fun _ _ _ h => h) (A.free_true _)
  refine calls_of_wp hf hb (Code.wp_mono ?_ (awp_ok hm keep code _ _ [] _ w hlex S h))
  intro e a' w' he
  have fin : ∀ a' w',SK c (aret (fn.results.toList.map (toRV P)) r) a' w' → a'.defers = [] ∧ ∃ v,(results fn a'.tmps).run P w' = .ok v w' ∧ ∃ v1,Ending.returned v = .returned v1 ∧ Ext w w' ∧ VSim w' (fun b => b < w'.heap.size ∧ (ok b ∨ w.heap.size ≤ b)) w.heap.size [] r v1:=by
    rintro a' w' ⟨σ',β',h',S'⟩
    obtain ⟨v,σ2,hv,S2,hs⟩:=results_ok (P:=P) S' h'
    refine ⟨S'.defers,v,hv,v,rfl,S'.fr,hs.move (p:=fun _ => false) (fun b hb => ⟨⟨hb.1,?_⟩,rfl⟩) (Nat.le_refl _) (fun i u hp _ => by cases hp) hr⟩
    rcases hb.2.1 with h|h|h
    · exact .inl h
    · exact .inr h
    · exact h.elim
  cases e with
  | normal => exact fin a' w' he
  | ret => exact fin a' w' he
  | exit id => obtain ⟨σ',β',h',_⟩:=he;exact h'.elim
  | goto l => exact he.elim
  | panic ch => exact he.elim
  | outgrown => exact he.elim
end
def pinsL : Nat → List O → List Value → List (Nat × A)
  | k,.box _ :: h,v :: β => (1000000 + k,.pin k v) :: pinsL (k + 1) h β
  | k,_ :: h,_ :: β => pinsL (k + 1) h β
  | _,_,_ => []
section
variable {P : Program} {c : Cx} {σ : St} {β : List Value} {a : Act} {w w' : World} {o : Oper} [hcx : Nonempty (CxOk c)]
end
section
variable {w : World} {β : List Value}
end
section
variable {P : Program} {c : Cx} {σ : St} {β : List Value} {a : Act} {w w' : World} {o : Oper} [hcx : Nonempty (CxOk c)]
end
end Go.Proofs.YtlddcimpdkcgeaaGreatDoor.Sym
