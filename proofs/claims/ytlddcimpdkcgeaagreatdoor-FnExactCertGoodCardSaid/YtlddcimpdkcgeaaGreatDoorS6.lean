/- Instructions: each one is sound. -/
import Derived.Test.YtlddcimpdkcgeaaGreatDoorS5
set_option linter.unusedVariables false
set_option linter.unusedSimpArgs false
namespace Go.Proofs.YtlddcimpdkcgeaaGreatDoor.Sym
open List (cons_append length_append)
open Nat (zero_add)
open Go.RowKit
def Out (P : Program) (o : Oper) (a : Act) (w : World) (R : Value → World → Prop) : Prop :=
  (∃ v w',(execOp a.eval o).run P w = .ok (.value v) w' ∧ R v w') ∨ (∃ w',(execOp a.eval o).run P w = .ok .skip w' ∧ R undef w')
def tchO (σ : St) (o : Oper) (j : Nat) : Bool:=match o.op with
  | .store _ p _ => (match (toX p).ev σ with|.ptr i _ => Nat.beq i j|.optr i _ _ _ => Nat.beq i j|_ => false)
  | .call cl => (match cl.args.toList with|s :: _ => (match (toX s).ev σ with|.osl i => Nat.beq i j|_ => false)|[] => false)
  | _ => false
structure NwG (T : Nat → Prop) (h : List O) (β : List Value) (w : World) (h' : List O) (β' : List Value) (w' : World) : Prop where
  fr : Fr (fun b => ∃ i q v,T i ∧ h[i]? = some q ∧ β[i]? = some v ∧ b ∈ blkOf q v) w w'
  blk : ∀ (i : Nat) (q' : O) (v' : Value) (b : Nat),h'[i]? = some q' → β'[i]? = some v' → b ∈ blkOf q' v' → w.heap.size ≤ b ∨ ∃ q v,h[i]? = some q ∧ β[i]? = some v ∧ b ∈ blkOf q v
  len : β.length ≤ β'.length
def Nw (σ : St) (o : Oper) (β : List Value) (w : World) (σ' : St) (β' : List Value) (w' : World) : Prop :=
  match o.op with
  | .alloc _|.makeSlice _ _ _|.buildSlice _ _ _|.store _ _ _|.call _ => NwG (fun j => tchO σ o j = true) σ.h β w σ'.h β' w'
  | _ => True
theorem NwG.new {T : Nat → Prop} {h : List O} {β : List Value} {w w' : World} (hl : β.length = h.length) (hf : Fr (fun _ => False) w w') {q : O} {v : Value} (hb : ∀ b,b ∈ blkOf q v → w.heap.size ≤ b) : NwG T h β w (h ++ [q]) (β ++ [v]) w':=by
  refine ⟨⟨hf.os,hf.tape,hf.output,hf.size,fun b hb _ => hf.block b hb (fun h => h)⟩,fun i q' v' b h1 h2 h3 => ?_,by simp⟩
  rcases get_snoc h1 with h1|⟨h1,h1'⟩
  · rcases get_snoc h2 with h2|⟨h2,_⟩
    · exact .inr ⟨q',v',h1,h2,h3⟩
    · have:=(List.getElem?_eq_some_iff.1 h1).1
      omega
  · rcases get_snoc h2 with h2|⟨_,h2'⟩
    · have:=(List.getElem?_eq_some_iff.1 h2).1
      omega
    · subst h1';subst h2'
      exact .inl (hb b h3)
theorem NwG.one {T : Nat → Prop} {h h' : List O} {β : List Value} {w w' : World} {k : Nat} {v' : Value} (hf : Fr (fun b => ∃ i q v,T i ∧ h[i]? = some q ∧ β[i]? = some v ∧ b ∈ blkOf q v) w w')
    (hk : ∀ q' b,h'[k]? = some q' → b ∈ blkOf q' v' → w.heap.size ≤ b ∨ ∃ q v,h[k]? = some q ∧ β[k]? = some v ∧ b ∈ blkOf q v)
    (ho : ∀ i q',i ≠ k → h'[i]? = some q' → ∃ q,h[i]? = some q ∧ ∀ u b,b ∈ blkOf q' u → b ∈ blkOf q u) : NwG T h β w h' (β.set k v') w':=by
  refine ⟨hf,fun i q' v b h1 h2 h3 => ?_,by simp⟩
  by_cases hi : i = k
  · subst hi
    rw [List.getElem?_set] at h2
    split at h2
    · split at h2
      · injection h2 with h2
        subst h2
        exact hk q' b h1 h3
      · cases h2
    · rename_i hne;exact absurd rfl hne
  · rw [List.getElem?_set_ne (fun e => hi e.symm)] at h2
    obtain ⟨q,g1,g2⟩:=ho i q' hi h1
    exact .inr ⟨q,v,g1,h2,g2 v b h3⟩
def rdO (σ : St) (o : Oper) (j : Nat) : Bool:=match o.op with
  | .load _ p => match peel ((toX p).ev σ) with|.ptr i _ => Nat.beq i j|.optr i _ _ _ => Nat.beq i j|_ => false
  | .convert _ _ _ => true
  | _ => false
def Away (σ : St) (o : Oper) (β : List Value) (w : World) (B : Nat → Prop) : Prop:=∀ b,B b → ∃ i q v,σ.h[i]? = some q ∧ β[i]? = some v ∧ b ∈ blkOf q v ∧ rdO σ o i = false
theorem Away.none {σ : St} {o : Oper} {β : List Value} {w : World} : Away σ o β w (fun _ => False):=fun _ h => h.elim
def ResOk (P : Program) (c : Cx) (o : Oper) (σ : St) (β : List Value) (a : Act) (w : World) : Res → Prop
  | .bad => True
  | .val p x => p → ∃ v,(∀ w' B,Fr B w w' → Away σ o β w B → (execOp a.eval o).run P w' = .ok (.value v) w') ∧ VSim w (okOf c w σ.h β) c.lo β x v
  | .st p σ' x => p → Out P o a w (fun v w' => ∃ β',Sim c σ' β' a w' ∧ VSim w' (okOf c w' σ'.h β') c.lo β' x v ∧ Nw σ o β w σ' β' w')
  | .call p σ0 xs σb Bs σ' f As => p → σ0 = σ ∧ ∃ vs : List Value,(∀ σ2 : St,Sim c σ2 β a w → VSimL w (okOf c w σ2.h β) c.lo β (evs σ2 xs) (vs.take xs.length)) ∧ (∀ w',Fr (fun _ => False) w w' → (execOp a.eval o).run P w' = (callFunc f vs.toArray).run P w') ∧ Sim c σb β a w ∧ VSimL w (okOf c w σb.h β) c.lo β Bs (vs.take Bs.length) ∧ Sim c σ' β a w ∧ VSimL w (okOf c w σ'.h β) c.lo β As vs ∧
      (∀ (i : Nat) (q : O),(σb.h[i]? = some q ∨ σ'.h[i]? = some q) → ∃ q0 : O,σ.h[i]? = some q0 ∧ ∀ (u : Value) (b : Nat),b ∈ blkOf q u → b ∈ blkOf q0 u)
section
variable {P : Program} {c : Cx} {σ : St} {β : List Value} {a : Act} {w w' : World} {o : Oper}
theorem ok_mv (S : Sim c σ β a w) {x : Operand} (ho : o.op = .move x ∨ o.op = .assign x) : ResOk P c o σ β a w ((I.mv (toX x)).res σ):=by
  refine fun hp => ⟨a.eval x,fun w' _ _ _ => ?_,(S.ev x).peel hp⟩
  rcases ho with ho|ho <;> simp [execOp,ho]
theorem pickB_ok {ok : Nat → Prop} {lo : Nat} {cb : Bool} {x y : A} {u v : Value} (hx : VSim w ok lo β x u) (hy : VSim w ok lo β y v) :
    match pickB cb x y with|.val p z => p → VSim w ok lo β z (if cb then u else v)|_ => True:=by
  unfold pickB
  split
  · rename_i h
    split at h <;> simp only [Res.val.injEq,reduceCtorEq] at h <;> obtain ⟨rfl,rfl⟩:=h <;> intro hp
    · subst hp;rw [vbool hy];exact vsim_bool _
    · subst hp;rw [vbool hx];exact vsim_bool _
    · cases cb with
      | true => simp only [VSim] at hx;rw [if_pos rfl,vbool (hx.1 (hp rfl))];exact vsim_bool _
      | false => simp only [if_neg,Bool.false_eq_true,not_false_iff];rw [vbool hy];exact vsim_bool _
    · cases cb with
      | true => rw [if_pos rfl,vbool hx];exact vsim_bool _
      | false => simp only [VSim] at hy;simp only [if_neg,Bool.false_eq_true,not_false_iff];rw [vbool (hy.1 (hp rfl))];exact vsim_bool _
    · cases cb with
      | true => rw [if_pos rfl,vbool hx];exact vsim_bool _
      | false => simp only [if_neg,Bool.false_eq_true,not_false_iff];rw [vbool hy];exact vsim_bool _
  · trivial
theorem ok_pick (S : Sim c σ β a w) {x y z : Operand} (ho : o.op = .pick x y z) : ResOk P c o σ β a w ((I.pick (toX x) (toX y) (toX z)).res σ):=by
  simp only [I.res]
  split
  · rename_i o' b hb
    have hk:=pickB_ok (cb:=b) (S.ev y) (S.ev z)
    cases hr : pickB b ((toX y).ev σ) ((toX z).ev σ) with
    | val p r =>
      rw [hr] at hk
      intro hp
      have h:=(S.ev x).peel hp.1
      rw [hb] at h
      refine ⟨_,fun w' _ _ _ => ?_,hk hp.2⟩
      simp [execOp,ho,vbool h,asBool]
    | _ => trivial
  · trivial
theorem ok_box (S : Sim c σ β a w) {t : TypeId} {x : Operand} (ho : o.op = .box t x) : ResOk P c o σ β a w ((I.box (toX x)).res σ):=by
  have hev:=S.ev x
  have hrun : (execOp a.eval o).run P w = .ok (.value (.pointer (some ⟨w.heap.size,0,none⟩))) (w.alloc (.cells (a.eval x).cells t)):=by
    simp [execOp,ho,Instr.box,newVar,newRow]
  have key : ∀ (y : A),(toX x).ev σ = y → one y = true → ResOk P c o σ β a w (.st True ⟨σ.t,σ.h ++ [.box [y]]⟩ (.ptr σ.h.length 0)):=by
    intro y hy hone _
    rw [hy] at hev
    have h1 : (a.eval x).cells = [a.eval x].toArray:=by
      cases y <;> simp [one] at hone
      case d o' d' => have:=hev.read.one;cases hv : a.eval x <;> simp_all [Value.cells,Value.oneCell']
      case ptr => obtain ⟨b,_,hv⟩:=hev;rw [hv];rfl
      case osl i =>
        simp only [VSim] at hev
        have:=S.vone i _ hev
        cases hv : a.eval x <;> simp_all [Value.cells,Value.oneCell']
      case otr i =>
        simp only [VSim] at hev
        have:=hev.2
        cases hv : a.eval x <;> simp_all [Value.cells,Value.oneCell']
      case ep => obtain ⟨b,_,_,hv,_⟩:=hev;rw [hv];rfl
      case fn => obtain ⟨vs,hv,_⟩:=hev;rw [hv];rfl
      case nil => simp only [VSim] at hev;rw [hev];rfl
    rw [h1] at hrun
    refine .inl ⟨_,_,hrun,_,S.newBox t (cells:=[y]) (vs:=[a.eval x]) (by simp only [VSimL,and_true];exact hev),?_,by simp [Nw,ho]⟩
    simp only [VSim]
    exact ⟨w.heap.size,by rw [← S.len];simp,rfl⟩
  simp only [I.res]
  split
  · rename_i xs hx
    rw [hx] at hev
    obtain ⟨vs,hv,hs⟩:=hev
    intro _
    rw [hv] at hrun
    refine .inl ⟨_,_,hrun,_,S.newBox t hs,?_,by simp [Nw,ho]⟩
    simp only [VSim]
    exact ⟨w.heap.size,by rw [← S.len];simp,rfl⟩
  · cases h1 : one ((toX x).ev σ) with
    | true => exact key _ rfl h1
    | false => trivial
theorem ok_alloc (S : Sim c σ β a w) {t : TypeId} {z : Value} (ho : o.op = .alloc t) (hz : (P.info? t).bind (·.zero) = some z) : ResOk P c o σ β a w ((I.alloc (z.cells.toList.map A.ofVal1)).res σ):=by
  intro _
  obtain ⟨i,hi,hz⟩:=Option.bind_eq_some_iff.1 hz
  have hrun : (execOp a.eval o).run P w = .ok (.value (.pointer (some ⟨w.heap.size,0,none⟩))) (w.alloc (.cells z.cells.toList.toArray t)):=by
    simp [execOp,ho,Instr.alloc,zeroValue,typeInfo,hi,hz,newVar,newRow]
  refine .inl ⟨_,_,hrun,_,S.newBox t (ofValL_sim _),?_,by simp only [Nw,ho];exact NwG.new S.len (Fr.alloc w _) (fun b hb => by simp [blkOf] at hb;omega)⟩
  simp only [VSim]
  exact ⟨w.heap.size,by rw [← S.len];simp,rfl⟩
theorem ok_allocR (S : Sim c σ β a w) {t : TypeId} {z : Value} {e n : Nat} (ho : o.op = .alloc t) (hz : (P.info? t).bind (·.zero) = some z) (hz1 : z.cells.toList = [.slice none 0 0]) : ResOk P c o σ β a w ((I.allocR e n).res σ):=by
  intro _
  obtain ⟨i,hi,hz⟩:=Option.bind_eq_some_iff.1 hz
  have hrun : (execOp a.eval o).run P w = .ok (.value (.pointer (some ⟨w.heap.size,0,none⟩))) (w.alloc (.cells z.cells.toList.toArray t)):=by
    simp [execOp,ho,Instr.alloc,zeroValue,typeInfo,hi,hz,newVar,newRow]
  rw [hz1] at hrun
  have S1 : Sim c ⟨σ.t,σ.h ++ [.row true e n []]⟩ (β ++ [.slice none 0 0]) a w:=S.new (Fr.refl _ _) rfl (fun b hb => by simp [blkOf,Value.ownBlock] at hb) (fun _ => ⟨[],⟨by simp,.inl ⟨rfl,rfl⟩⟩,by simp,by simp,trivial,fun _ => ⟨fun b hb => by simp [Value.ownBlock] at hb,[],.nil,List.nodup_nil,fun b hb => by cases hb⟩⟩)
  have S2:=S1.newBox t (cells:=[.osl σ.h.length]) (vs:=[.slice none 0 0]) (by simp only [VSimL,VSim,and_true];rw [← S.len];simp)
  have hl : (β ++ [Value.slice none 0 0]).length = σ.h.length + 1:=by simp [S.len]
  have hh : σ.h ++ [.row true e n [],.box [.osl σ.h.length]] = (σ.h ++ [.row true e n []]) ++ [.box [.osl σ.h.length]]:=by simp
  refine .inl ⟨_,_,hrun,(β ++ [.slice none 0 0]) ++ [.pointer (some ⟨w.heap.size,0,none⟩)],by rw [hh];exact S2,?_,?_⟩
  · simp only [VSim]
    refine ⟨w.heap.size,?_,rfl⟩
    rw [← hl,List.getElem?_append_right (Nat.le_refl _)];simp
  · simp only [Nw,ho]
    have hn:=NwG.new (T:=fun j => tchO σ o j = true) (h:=σ.h ++ [.row true e n []]) (β:=β ++ [.slice none 0 0]) (w:=w) (w':=w.alloc (.cells [Value.slice none 0 0].toArray t)) (q:=.box [.osl σ.h.length]) (v:=.pointer (some ⟨w.heap.size,0,none⟩)) (by simp [S.len]) (Fr.alloc w _) (fun b hb => by simp [blkOf] at hb;omega)
    have hfr : Fr (fun _ => False) w (w.alloc (.cells [Value.slice none 0 0].toArray t)):=Fr.alloc w _
    refine ⟨⟨hfr.os,hfr.tape,hfr.output,hfr.size,fun b hb _ => hfr.block b hb (fun h => h)⟩,fun i q' v' b h1 h2 h3 => ?_,by simp⟩
    rcases hn.blk i q' v' b (by rw [← hh];exact h1) h2 h3 with h|⟨q,v,g1,g2,g3⟩
    · exact .inl h
    · rcases get_snoc g1 with g1|⟨_,g1'⟩
      · rcases get_snoc g2 with g2|⟨g2,_⟩
        · exact .inr ⟨q,v,g1,g2,g3⟩
        · have:=(List.getElem?_eq_some_iff.1 g1).1
          have:=S.len
          omega
      · rcases get_snoc g2 with g2|⟨_,g2'⟩
        · rename_i g0
          have:=(List.getElem?_eq_some_iff.1 g2).1
          have:=S.len
          omega
        · subst g1';subst g2'
          simp [blkOf,Value.ownBlock] at g3
theorem ok_own (S : Sim c σ β a w) {e n : Nat} (ho : o.op = .assign (.const (.slice none 0 0))) : ResOk P c o σ β a w ((I.own e n).res σ):=by
  intro _
  refine .inl ⟨.slice none 0 0,w,by simp [execOp,ho,Act.eval],β ++ [.slice none 0 0],S.new (Fr.refl _ _) rfl (fun b hb => by simp [blkOf,Value.ownBlock] at hb) (fun _ => ⟨[],⟨by simp,.inl ⟨rfl,rfl⟩⟩,by simp,by simp,trivial,fun _ => ⟨fun b hb => by simp [Value.ownBlock] at hb,[],.nil,List.nodup_nil,fun b hb => by cases hb⟩⟩),?_,by simp [Nw,ho]⟩
  simp only [VSim]
  rw [← S.len];simp
theorem run_load1 {t : TypeId} {d : TypeDesc} (hu : P.underlying t = some d) (hd : (match d with|.struct _|.array _ _ => true|_ => false) = false) {ad : Addr} {u : Value} (hc : w.cell? ad = some u) :
    (Instr.loadAt t (.pointer (some ad))).run P w = .ok u w:=by
  have hagg : (isAgg t).run P w = .ok false w:=by
    unfold isAgg
    rw [Sem.run_bind,run_underlying hu w]
    cases d <;> simp_all
  simp [Instr.loadAt,Instr.sureAddr,loadVar,Sem.run_bind,hagg,hc]
theorem run_loadn {t : TypeId} {fs : Array Field} (hu : P.underlying t = some (.struct fs)) {b o : Nat} {cs : List Value} (hn : cs.length = P.cellsOf t) (hc : ∀ j v,cs[j]? = some v → w.cell? ⟨b,o + j,none⟩ = some v) :
    (Instr.loadAt t (.pointer (some ⟨b,o,none⟩))).run P w = .ok (.agg cs.toArray) w:=by
  have hagg : (isAgg t).run P w = .ok true w:=by
    unfold isAgg
    rw [Sem.run_bind,run_underlying hu w]
    simp
  obtain ⟨i,hi⟩:=info_of_under hu
  have hl : (loadCells ⟨b,o,none⟩ cs.length).run P w = .ok cs.toArray w:=run_loadCells_list (P:=P) w ⟨b,o,none⟩ cs (fun j v hv => by rw [addr_add];exact hc j v hv)
  rw [hn,cellsOf_eq hi] at hl
  simp [Instr.loadAt,Instr.sureAddr,loadVar,Sem.run_bind,hagg,sizeOf,typeInfo,hi,hl]
theorem box_of (S : Sim c σ β a w) {i : Nat} {cells : List A} (hi : σ.h[i]? = some (.box cells)) {b : Nat} (hb : β[i]? = some (.pointer (some ⟨b,0,none⟩))) :
    ∃ vs ty,w.heap[b]? = some (.cells vs.toArray ty (0,0)) ∧ VSimL w (okOf c w σ.h β) c.lo β cells vs:=by
  obtain ⟨b',vs,ty,he,h1,h2⟩:=S.obj i _ _ hi hb
  injection he with he
  injection he with he
  injection he with he
  subst he
  exact ⟨vs,ty,h1,h2⟩
theorem cell_box {b : Nat} {vs : List Value} {ty : TypeId} {fr : Nat × Nat} (h : w.heap[b]? = some (.cells vs.toArray ty fr)) (k : Nat) : w.cell? ⟨b,k,none⟩ = vs[k]?:=by
  simp [World.cell?,h]
theorem away_box (S : Sim c σ β a w) {t : TypeId} {x : Operand} (ho : o.op = .load t x) {i off : Nat} (hp : peel ((toX x).ev σ) = .ptr i off) {cells : List A} (hi : σ.h[i]? = some (.box cells)) {b : Nat} (hb : β[i]? = some (.pointer (some ⟨b,0,none⟩))) :
    ∀ B,Away σ o β w B → ¬ B b:=by
  intro B hA hBb
  obtain ⟨j,q,v,h1,h2,h3,h4⟩:=hA b hBb
  by_cases hj : i = j
  · subst hj
    unfold rdO at h4
    rw [ho] at h4
    simp only [hp,Nat.beq_refl] at h4
    cases h4
  · exact S.sep i j _ _ _ _ b hj hi hb h1 h2 (by simp [blkOf]) h3
theorem away_row (S : Sim c σ β a w) {t : TypeId} {x : Operand} (ho : o.op = .load t x) {i j e off : Nat} (hp : peel ((toX x).ev σ) = .optr i j e off) {own : Bool} {ety e' : Nat} {xs : List (List D)} (hi : σ.h[i]? = some (.row own ety e' xs)) {b n cc : Nat} (hb : β[i]? = some (.slice (some ⟨b,0,none⟩) n cc)) :
    ∀ B,Away σ o β w B → ¬ B b:=by
  intro B hA hBb
  obtain ⟨k,q,v,h1,h2,h3,h4⟩:=hA b hBb
  by_cases hk : i = k
  · subst hk
    unfold rdO at h4
    rw [ho] at h4
    simp only [hp,Nat.beq_refl] at h4
    cases h4
  · exact S.sep i k _ _ _ _ b hk hi hb h1 h2 (by simp [blkOf,Value.ownBlock]) h3
theorem row_inner (S : Sim c σ β a w) {i : Nat} {own : Bool} {ety e : Nat} {xs : List (List D)} (hi : σ.h[i]? = some (.row own ety e xs)) {b n cc : Nat} (hb : β[i]? = some (.slice (some ⟨b,0,none⟩) n cc)) (hp : 0 < xs.length) :
    ∃ inner,(∀ l,l ∈ xs → l.length = e) ∧ RepL w (okOf c w σ.h β) inner xs.flatten ∧ ∀ (k : Nat) (u : Value),inner[k]? = some u → w.cell? ⟨b,k,none⟩ = some u:=by
  obtain ⟨inner,h1,h2,h3,h4,h5⟩:=S.obj i _ _ hi hb
  rcases h1.2 with ⟨_,h⟩|⟨g,cap,cur,hv,hg,hh,hn,hc,hs,ht⟩
  · omega
  · injection hv with hv
    injection hv with hv
    injection hv with hv
    subst hv
    refine ⟨inner,h2,h4,fun k u hu => ?_⟩
    rw [← ht,List.getElem?_take] at hu
    split at hu
    · rw [World.cell?,hh]
      simpa using hu
    · cases hu
theorem away_ok {B : Nat → Prop} {b : Nat} (hA : Away σ o β w B) (hk : okOf c w σ.h β b) : ¬ B b:=by
  intro hB
  obtain ⟨j,q,v,h1,h2,h3,_⟩:=hA b hB
  exact hk.2.2 j q v h1 h2 h3
theorem ok_ld1 (S : Sim c σ β a w) {t : TypeId} {x : Operand} {d : TypeDesc} (ho : o.op = .load t x) (hu : P.underlying t = some d) (hd : (match d with|.struct _|.array _ _ => true|_ => false) = false) :
    ResOk P c o σ β a w ((I.ld none (toX x)).res σ):=by
  have hev:=S.ev x
  have hrun : ∀ b off u,a.eval x = .pointer (some ⟨b,off,none⟩) → w.cell? ⟨b,off,none⟩ = some u → (∀ B,Away σ o β w B → ¬ B b) → ∀ w' B,Fr B w w' → Away σ o β w B → (execOp a.eval o).run P w' = .ok (.value u) w':=by
    intro b off u h1 h2 hB w' B hw hA
    have h3 : w'.cell? ⟨b,off,none⟩ = some u:=(cell_same (hw.block b (World.block_lt_of_cell? w ⟨b,off,none⟩ h2) (hB B hA))).trans h2
    simp [execOp,ho,h1,run_load1 hu hd h3]
  simp only [I.res]
  split
  · rename_i i off hp
    split
    · rename_i cells hi
      split
      · rename_i y hy
        intro hg
        have h:=hev.peel hg
        rw [hp] at h
        obtain ⟨b,h1,h2⟩:=h
        obtain ⟨vs,ty,h3,h4⟩:=box_of S hi h1
        obtain ⟨u,hu',hs⟩:=h4.get hy
        exact ⟨u,hrun _ _ _ h2 ((cell_box h3 off).trans hu') (away_box S ho hp hi h1),hs⟩
      · trivial
    · trivial
  · rename_i ds off hp
    split
    · rename_i y hy
      intro hg
      have h:=hev.peel hg
      rw [hp] at h
      obtain ⟨b,o',us,h1,h2,h3,h4⟩:=h
      obtain ⟨u,hu',hs⟩:=h4.get hy
      exact ⟨u,hrun _ _ _ h1 (h3 off u hu') (fun B hA => away_ok hA h2),hs⟩
    · trivial
  · rename_i i j e off hp
    split
    · rename_i own ety e' xs hobj
      split
      · rename_i d hd
        rintro ⟨hg,he,hj⟩
        subst he
        have h:=hev.peel hg
        rw [hp] at h
        simp only [VSim] at h
        obtain ⟨b,n,cc,hb,hv⟩:=h
        obtain ⟨inner,k1,k2,k3⟩:=row_inner S hobj hb (by omega)
        have hget : xs[j]? = some (xs.getD j []):=by rw [List.getD_eq_getElem?_getD,List.getElem?_eq_getElem hj];rfl
        have hoff : off < e:=by rw [← k1 _ (List.mem_of_getElem? hget)];exact (List.getElem?_eq_some_iff.1 hd).1
        obtain ⟨u,hu1,hu2⟩:=k2.get ((flat_get k1 j off _ hget hoff).trans hd)
        exact ⟨u,hrun _ _ _ hv (k3 _ u hu1) (away_row S ho hp hobj hb),hu2⟩
      · trivial
    · trivial
  · trivial
theorem VSimL.of_rep {ok : Nat → Prop} {lo : Nat} : ∀ {ds : List D} {vs : List Value},RepL w ok vs ds → VSimL w ok lo β (ds.map (A.d false)) vs
  | [],[],_ => by simp [VSimL]
  | _ :: _,_ :: _,h => by simp only [List.map_cons,VSimL,VSim];exact ⟨h.1,VSimL.of_rep h.2⟩
  | [],_ :: _,h => h.elim
  | _ :: _,[],h => h.elim
theorem ok_ldn (S : Sim c σ β a w) {t : TypeId} {x : Operand} {fs : Array Field} (ho : o.op = .load t x) (hu : P.underlying t = some (.struct fs)) :
    ResOk P c o σ β a w ((I.ld (some (P.cellsOf t)) (toX x)).res σ):=by
  have hev:=S.ev x
  simp only [I.res]
  split
  · rename_i i off hp
    split
    · rename_i cells hi
      intro hg
      have h:=hev.peel hg.1
      rw [hp] at h
      obtain ⟨b,h1,h2⟩:=h
      obtain ⟨vs,ty,h3,h4⟩:=box_of S hi h1
      have hs:=(h4.drop off).take (P.cellsOf t)
      have hl : ((vs.drop off).take (P.cellsOf t)).length = P.cellsOf t:=by
        have:=hg.2
        rw [List.length_take,List.length_drop,VSimL.length h4]
        omega
      refine ⟨.agg ((vs.drop off).take (P.cellsOf t)).toArray,?_,?_⟩
      · intro w' B hw hA
        have hb:=hw.block b (Array.getElem?_eq_some_iff.1 h3).1 (away_box S ho hp hi h1 B hA)
        have:=run_loadn (P:=P) (w:=w') hu (b:=b) (o:=off) hl (fun j v hv => by
          rw [cell_same hb,cell_box h3]
          rw [List.getElem?_take] at hv
          split at hv
          · rwa [List.getElem?_drop] at hv
          · cases hv)
        simp [execOp,ho,h2,this]
      · simp only [VSim]
        exact ⟨_,rfl,hs⟩
    · trivial
  · rename_i ds off hp
    intro hg
    have h:=hev.peel hg.1
    rw [hp] at h
    obtain ⟨b,o',us,h1,h2,h3,h4⟩:=h
    have hs:=(h4.drop off).take (P.cellsOf t)
    have hl : ((us.drop off).take (P.cellsOf t)).length = P.cellsOf t:=by
      have:=hg.2
      rw [List.length_take,List.length_drop,RepL.length h4]
      omega
    refine ⟨.agg ((us.drop off).take (P.cellsOf t)).toArray,?_,?_⟩
    · intro w' B hw hA
      have:=run_loadn (P:=P) (w:=w') hu (b:=b) (o:=o' + off) hl (fun j v hv => by
        rw [List.getElem?_take] at hv
        split at hv
        · rw [List.getElem?_drop] at hv
          rw [Nat.add_assoc,cell_same (hw.block b h2.1 (away_ok hA h2))]
          exact h3 _ _ hv
        · cases hv)
      simp [execOp,ho,h1,this]
    · simp only [VSim]
      exact ⟨_,rfl,VSimL.of_rep hs⟩
  · rename_i i j e off hp
    split
    · rename_i own ety e' xs hobj
      rintro ⟨hg,he,hj,hoff⟩
      subst he
      have h:=hev.peel hg
      rw [hp] at h
      simp only [VSim] at h
      obtain ⟨b,n,cc,hb,hv⟩:=h
      obtain ⟨inner,k1,k2,k3⟩:=row_inner S hobj hb (by omega)
      have hget : xs[j]? = some (xs.getD j []):=by rw [List.getD_eq_getElem?_getD,List.getElem?_eq_getElem hj];rfl
      have hlen : (xs.getD j []).length = e:=k1 _ (List.mem_of_getElem? hget)
      have hfl : (xs.flatten.drop (j * e + off)).take (P.cellsOf t) = ((xs.getD j []).drop off).take (P.cellsOf t):=by
        apply List.ext_getElem?
        intro k
        rw [List.getElem?_take,List.getElem?_take]
        split
        · rw [List.getElem?_drop,List.getElem?_drop,Nat.add_assoc,flat_get k1 j (off + k) _ hget (by omega)]
        · rfl
      have hs:=(k2.drop (j * e + off)).take (P.cellsOf t)
      rw [hfl] at hs
      have hl : ((inner.drop (j * e + off)).take (P.cellsOf t)).length = P.cellsOf t:=by
        rw [RepL.length hs,List.length_take,List.length_drop,hlen]
        omega
      refine ⟨.agg ((inner.drop (j * e + off)).take (P.cellsOf t)).toArray,?_,?_⟩
      · intro w' B hw hA
        have:=run_loadn (P:=P) (w:=w') hu (b:=b) (o:=j * e + off) hl (fun k v hk => by
          rw [List.getElem?_take] at hk
          split at hk
          · rw [List.getElem?_drop] at hk
            have h3:=k3 _ v hk
            exact (cell_same (hw.block b (World.block_lt_of_cell? w ⟨b,_,none⟩ h3) (away_row S ho hp hobj hb B hA))).trans h3
          · cases hk)
        simp [execOp,ho,hv,this]
      · simp only [VSim]
        exact ⟨_,rfl,VSimL.of_rep hs⟩
    · trivial
  · trivial
theorem ok_fa (S : Sim c σ β a w) {t : TypeId} {x : Operand} {f : Nat} {fs : Array Field} {fd : Field} (ho : o.op = .fieldAddr t x f) (hu : P.underlying t = some (.struct fs)) (hf : fs[f]? = some fd)
    (hn : P.cellsOf fd.type ≠ 0) : ResOk P c o σ β a w ((I.fa fd.offset (toX x)).res σ):=by
  have hev:=S.ev x
  have hrun : ∀ b off,a.eval x = .pointer (some ⟨b,off,none⟩) → ∀ w' B,Fr B w w' → Away σ o β w B → (execOp a.eval o).run P w' = .ok (.value (.pointer (some ⟨b,off + fd.offset,none⟩))) w':=by
    intro b off h1 w' _
    cases hi : P.info? fd.type with
    | none => simp [Program.cellsOf,hi] at hn
    | some i =>
      have hs : i.size ≠ 0:=by simpa [Program.cellsOf,hi] using hn
      simp [execOp,ho,h1,Instr.fieldAt,run_underlying hu,hf,Instr.sureAddr,fieldPlace,sizeOf,typeInfo,hi,hs,addr_add]
  simp only [I.res]
  split
  · rename_i i off hp
    intro hg
    have h:=hev.peel hg
    rw [hp] at h
    obtain ⟨b,h1,h2⟩:=h
    refine ⟨_,hrun b off h2,?_⟩
    simp only [VSim]
    exact ⟨b,h1,rfl⟩
  · rename_i ds off hp
    intro hg
    have h:=hev.peel hg
    rw [hp] at h
    obtain ⟨b,o',us,h1,h2,h3,h4⟩:=h
    refine ⟨_,hrun b _ h1,?_⟩
    simp only [VSim]
    exact ⟨b,o',us,by rw [Nat.add_assoc],h2,h3,h4⟩
  · rename_i i j e off hp
    intro hg
    have h:=hev.peel hg
    rw [hp] at h
    obtain ⟨b,n,cc,h1,h2⟩:=h
    refine ⟨_,hrun b _ h2,?_⟩
    simp only [VSim]
    exact ⟨b,n,cc,h1,by rw [Nat.add_assoc]⟩
  · trivial
theorem row_of (S : Sim c σ β a w) {i : Nat} {own : Bool} {ety e : Nat} {xs : List (List D)} (hi : σ.h[i]? = some (.row own ety e xs)) {v : Value} (hb : β[i]? = some v) :
    ∃ inner,w.ownsRow 0 ety e v xs.length inner ∧ (∀ l,l ∈ xs → l.length = e) ∧ xs.length ≤ 140737488355328 ∧ RepL w (okOf c w σ.h β) inner xs.flatten ∧
      (own = true → (∀ b,v.ownBlock = some b → c.lo ≤ b) ∧ ∃ F,OwnL w inner xs.flatten F ∧ F.Nodup ∧ ∀ b,b ∈ F → okOf c w σ.h β b ∧ c.lo ≤ b):=S.obj i _ _ hi hb
theorem tree_of (S : Sim c σ β a w) {i : Nat} {xs : List (List D)} (hi : σ.h[i]? = some (.tree xs)) {v : Value} (hb : β[i]? = some v) :
    ∃ u F,v = tv u F ∧ OwnL w [u] [.sl xs] F ∧ F.Nodup ∧ ∀ b,b ∈ F → c.lo ≤ b:=S.obj i _ _ hi hb
theorem run_index {t e : TypeId} (hu : P.underlying t = some (.slice e)) {i : TypeInfo} (hi : P.info? e = some i) {b o' len cap : Nat} {k : IntKind} {n : Int} (h0 : 0 ≤ n) (h1 : n < len) :
    (Instr.indexAt t (.slice (some ⟨b,o',none⟩) len cap) (.int k n)).run P w = .ok (.pointer (some ⟨b,o' + n.toNat * i.size,none⟩)) w:=by
  simp [Instr.indexAt,asIntOf,run_underlying hu,sizeOf,typeInfo,hi,h0,h1,addr_add]
theorem ok_ia (S : Sim c σ β a w) {t e : TypeId} {x y : Operand} (ho : o.op = .indexAddr t x y) (hu : P.underlying t = some (.slice e)) (hi : (P.info? e).isSome = true) :
    ResOk P c o σ β a w ((I.ia (P.cellsOf e) (toX x) (toX y)).res σ):=by
  obtain ⟨i,hi⟩:=Option.isSome_iff_exists.1 hi
  have hx:=S.ev x
  have hy:=S.ev y
  have hsz : P.cellsOf e = i.size:=cellsOf_eq hi
  simp only [I.res]
  split
  · rename_i o1 xs o2 k n hpx hpy
    rintro ⟨g1,g2,h0,h1,h2⟩
    have hx:=hx.peel g1
    have hy:=hy.peel g2
    rw [hpx] at hx
    rw [hpy] at hy
    have hlt : n.toNat < xs.length:=by omega
    have hget : xs[n.toNat]? = some (xs.getD n.toNat []):=by
      rw [List.getD_eq_getElem?_getD,List.getElem?_eq_getElem hlt];rfl
    obtain ⟨b,o',cc,us,hv,hok,hc,hr⟩:=hx.read.elem hget
    refine ⟨.pointer (some ⟨b,o' + n.toNat * i.size,none⟩),?_,?_⟩
    · intro w' _ _ _
      have:=run_index (P:=P) (w:=w') hu hi (b:=b) (o':=o') (len:=xs.length) (cap:=cc) (k:=k) h0 h1
      simp [execOp,ho,hv,(vint hy).1,this]
    · simp only [VSim]
      refine ⟨b,o' + n.toNat * i.size,us,rfl,hok,fun m u hu => ?_,hr⟩
      have:=hc m u hu
      rw [h2,hsz] at this
      exact this
  · rename_i o1 o2 k n hpx hpy
    split
    · rename_i own ety e' xs hobj
      rintro ⟨g1,g2,h0,h1,h2⟩
      have hx:=hx.peel g1
      have hy:=hy.peel g2
      rw [hpx] at hx
      rw [hpy] at hy
      simp only [VSim] at hx
      obtain ⟨inner,hown,_⟩:=row_of S hobj hx
      rcases hown.2 with ⟨_,h⟩|⟨g,cap,cur,hv,_⟩
      · omega
      · refine ⟨.pointer (some ⟨g,0 + n.toNat * i.size,none⟩),?_,?_⟩
        · intro w' _ _ _
          have:=run_index (P:=P) (w:=w') hu hi (b:=g) (o':=0) (len:=xs.length) (cap:=cap) (k:=k) h0 h1
          simp only [execOp,ho,hv,(vint hy).1,Sem.run_bind,this,Result.andThen_ok,Sem.run_pure]
        · simp only [VSim]
          exact ⟨g,xs.length,cap,by rw [hx,hv],by rw [hsz];simp⟩
    · trivial
  · trivial
theorem ok_ix (S : Sim c σ β a w) {t : TypeId} {x y : Operand} (ho : o.op = .index t x y) (hu : P.underlying t = some .string) : ResOk P c o σ β a w ((I.ix (toX x) (toX y)).res σ):=by
  have hx:=S.ev x
  have hy:=S.ev y
  simp only [I.res]
  split
  · rename_i o1 s o2 k n hpx hpy
    rintro ⟨g1,g2,h0,h1⟩
    have hx:=hx.peel g1
    have hy:=hy.peel g2
    rw [hpx] at hx
    rw [hpy] at hy
    have hlt : n.toNat < s.size:=by omega
    have hb : s[n.toNat]? = some s[n.toNat]:=by simp [hlt]
    have hbt : btS s n = (s[n.toNat].toNat : Int):=by simp [btS,hb]
    refine ⟨.int .u8 (btS s n),?_,?_⟩
    · intro w' _ _ _
      simp [execOp,ho,(vstr hx).1,(vint hy).1,Instr.index,asIntOf,run_underlying hu,h0,hb,hbt]
    · rw [hbt]
      refine vsim_int _ _ ?_ ?_
      · rw [u8_min];omega
      · rw [u8_max];have:=s[n.toNat].toNat_lt;omega
  · trivial
theorem ok_ck (S : Sim c σ β a w) {x : Operand} (ho : o.op = .nilCheck x) : ResOk P c o σ β a w ((I.ck (toX x)).res σ):=by
  have hev:=S.ev x
  simp only [I.res]
  split
  · rename_i i off hp
    intro hg
    have hx:=hev.peel hg
    rw [hp] at hx
    have hx':=hx
    obtain ⟨b,h1,h2⟩:=hx
    exact ⟨a.eval x,fun w' _ _ _ => by simp [execOp,ho,h2],hx'⟩
  · rename_i ds off hp
    intro hg
    have hx:=hev.peel hg
    rw [hp] at hx
    have hx':=hx
    obtain ⟨b,o',us,h1,h2⟩:=hx
    exact ⟨a.eval x,fun w' _ _ _ => by simp [execOp,ho,h1],hx'⟩
  · trivial
theorem ok_not (S : Sim c σ β a w) {t : TypeId} {x : Operand} (ho : o.op = .unOp .not t x) : ResOk P c o σ β a w ((I.not (toX x)).res σ):=by
  have hx:=S.ev x
  simp only [I.res]
  split
  · rename_i o1 b hp
    intro hg
    have hx:=hx.peel hg
    rw [hp] at hx
    exact ⟨.bool (!b),fun w' _ _ _ => by simp [execOp,ho,vbool hx,Op.unary],vsim_bool _⟩
  · trivial
theorem ok_cvi (S : Sim c σ β a w) {s d : TypeId} {x : Operand} {k k' : IntKind} (ho : o.op = .convert s d x) (hs : P.underlying s = some (.int k')) (hd : P.underlying d = some (.int k)) : ResOk P c o σ β a w ((I.cvi k (toX x)).res σ):=by
  have hx:=S.ev x
  simp only [I.res]
  split
  · rename_i o1 k1 n hp
    intro hg
    have hx:=hx.peel hg
    rw [hp] at hx
    refine ⟨.int k (k.wrap n),?_,vsim_int _ _ (wrap_range k n).1 (wrap_range k n).2⟩
    intro w' _ _ _
    simp [execOp,ho,(vint hx).1,convert,run_underlying hs,run_underlying hd,Conv.intToInt]
  · trivial
theorem ok_ext (S : Sim c σ β a w) {x : Operand} {i : Nat} (ho : o.op = .extract x i) : ResOk P c o σ β a w ((I.ext (toX x) i).res σ):=by
  have hx:=S.ev x
  simp only [I.res]
  split
  · rename_i xs hp
    split
    · rename_i y hy
      intro hg
      have hx:=hx.peel hg
      rw [hp] at hx
      obtain ⟨vs,hv,hs⟩:=hx
      obtain ⟨u,hu,hs⟩:=hs.get hy
      exact ⟨u,fun w' _ _ _ => by simp [execOp,ho,hv,Instr.extract,hu],hs⟩
    · trivial
  · trivial
theorem ok_slen (S : Sim c σ β a w) {x : Operand} {t : TypeId} {cl : Call} (ho : o.op = .call cl) (hc1 : cl.callee = .builtin .len) (hc2 : cl.args = #[x]) (hc3 : cl.argTypes = #[t]) (hu : P.underlying t = some .string) :
    ResOk P c o σ β a w ((I.slen (toX x)).res σ):=by
  have hx:=S.ev x
  simp only [I.res]
  split
  · rename_i o1 s hp
    intro hg
    have hx:=hx.peel hg
    rw [hp] at hx
    have h:=vstr hx
    refine ⟨.int .i64 s.size,?_,vsim_int _ _ (by rw [i64_min];omega) (by rw [i64_max];have:=h.2;omega)⟩
    intro w' _ _ _
    simp [execOp,ho,hc1,hc2,hc3,resolve,invoke,builtin,h.1,Builtin.len_,run_underlying hu,goInt]
  · trivial
theorem ok_len (S : Sim c σ β a w) {x : Operand} {t e : TypeId} {cl : Call} (ho : o.op = .call cl) (hc1 : cl.callee = .builtin .len) (hc2 : cl.args = #[x]) (hc3 : cl.argTypes = #[t]) (hu : P.underlying t = some (.slice e)) :
    ResOk P c o σ β a w ((I.len (toX x)).res σ):=by
  have hx:=S.ev x
  have hrun : ∀ ad n cap,a.eval x = .slice ad n cap → ∀ w' B,Fr B w w' → Away σ o β w B → (execOp a.eval o).run P w' = .ok (.value (.int .i64 n)) w':=by
    intro ad n cap hv w' _ _ _
    simp [execOp,ho,hc1,hc2,hc3,resolve,invoke,builtin,hv,Builtin.len_,run_underlying hu,goInt]
  have hlen : ∀ n : Nat,n ≤ 140737488355328 → VSim w (okOf c w σ.h β) c.lo β (.d true (.int .i64 n)) (.int .i64 n) :=
    fun n hn => vsim_int _ _ (by rw [i64_min];omega) (by rw [i64_max];omega)
  simp only [I.res]
  split
  · rename_i o1 xs hp
    intro hg
    have hx:=hx.peel hg
    rw [hp] at hx
    obtain ⟨ad,cap,hv,_,hm,_⟩:=hx.read.cells
    exact ⟨_,hrun _ _ _ hv,hlen _ hm⟩
  · rename_i hp
    intro hg
    have hx:=hx.peel hg
    rw [hp] at hx
    simp only [VSim] at hx
    exact ⟨_,hrun _ _ _ hx,hlen 0 (by omega)⟩
  · rename_i i hp
    split
    · rename_i ety e' xs hobj
      intro hg
      have hx:=hx.peel hg
      rw [hp] at hx
      simp only [VSim] at hx
      obtain ⟨inner,hown,_,hm,_⟩:=row_of S hobj hx
      rcases hown.2 with ⟨hv,h⟩|⟨g,cap,cur,hv,_⟩
      · rw [h];exact ⟨_,hrun _ _ _ hv,hlen 0 (by omega)⟩
      · exact ⟨_,hrun _ _ _ hv,hlen _ hm⟩
    · trivial
  · trivial
theorem one_of {ok : Nat → Prop} {lo : Nat} (hβ : ∀ (i : Nat) (v : Value),β[i]? = some v → v.oneCell' = true) {x : A} {v : Value} (h1 : one x = true) (h : VSim w ok lo β x v) : v.oneCell' = true:=by
  cases x <;> simp [one] at h1
  case d o' d' => exact h.read.one
  case ptr => obtain ⟨b,_,hv⟩:=h;rw [hv];rfl
  case osl i => simp only [VSim] at h;exact hβ i _ h
  case otr i => simp only [VSim] at h;exact h.2
  case ep => obtain ⟨b,_,_,hv,_⟩:=h;rw [hv];rfl
  case fn => obtain ⟨vs,hv,_⟩:=h;rw [hv];rfl
  case nil => simp only [VSim] at h;rw [h];rfl
theorem run_store_at {b k : Nat} {vs : List Value} {ty : TypeId} (h : w.heap[b]? = some (.cells vs.toArray ty (0,0))) (hk : k < vs.length) {v : Value} (hv : v.oneCell' = true) :
    (store ⟨b,k,none⟩ v).run P w = .ok () (w.setCell ⟨b,k,none⟩ v):=by
  rw [run_store P w _ v .plain hv,cell_box h,List.getElem?_eq_getElem hk]
  simp [World.frozen?,h]
theorem store_cells (i b : Nat) (hb : β[i]? = some (.pointer (some ⟨b,0,none⟩))) (off : Nat) : ∀ (xs : List A) (vs : List Value) (σ : St) (w : World) (k : Nat) (cells : List A),Sim c σ β a w → σ.h[i]? = some (.box cells) →
    VSimL w (okOf c w σ.h β) c.lo β xs vs → off + k + xs.length ≤ cells.length → xs.all one = true →
    ∃ w',(storeCells ⟨b,off,none⟩ vs k).run P w = .ok () w' ∧ Sim c ⟨σ.t,σ.h.set i (.box (setL cells (off + k) xs))⟩ β a w' ∧ Fr (fun x => x = b) w w'
  | [],[],σ,w,k,cells,S,hi,_,_,_ => by
    refine ⟨w,rfl,?_⟩
    have : σ.h.set i (.box cells) = σ.h:=by
      apply List.ext_getElem?
      intro j
      by_cases hj : i = j
      · subst hj;rw [List.getElem?_set_self (List.getElem?_eq_some_iff.1 hi).1,hi]
      · rw [List.getElem?_set_ne hj]
    simp only [setL,this]
    exact ⟨S,Fr.refl _ _⟩
  | x :: xs,v :: vs,σ,w,k,cells,S,hi,hs,hl,h1 => by
    simp only [VSimL] at hs
    simp only [List.all_cons,Bool.and_eq_true] at h1
    simp only [List.length_cons] at hl
    have hil:=(List.getElem?_eq_some_iff.1 hi).1
    obtain ⟨us,ty,h3,h4⟩:=box_of S hi hb
    have hul:=VSimL.length h4
    obtain ⟨S',hok⟩:=S.store (k:=off + k) hi hb hs.1
    have hrun : (store ⟨b,off + k,none⟩ v).run P w = .ok () (w.setCell ⟨b,off + k,none⟩ v):=run_store_at h3 (by omega) (one_of S.vone h1.1 hs.1)
    obtain ⟨w',hr,S2,F2⟩:=store_cells i b hb off xs vs ⟨σ.t,σ.h.set i (.box (cells.set (off + k) x))⟩ (w.setCell ⟨b,off + k,none⟩ v) (k + 1) (cells.set (off + k) x) S' (by simp [hil])
      (VSimL.move (p:=fun _ => true) hok (Nat.le_refl _) (fun _ _ _ h => h) (A.freeL_true _) hs.2) (by simp;omega) h1.2
    refine ⟨w',?_,?_,(Fr.set (B:=fun x => x = b) w _ v rfl).trans F2 (fun _ _ h => h)⟩
    · simp only [storeCells,addr_add,Sem.run_bind,hrun,Result.andThen_ok]
      exact hr
    · simp only [List.set_set] at S2
      simp only [setL]
      exact S2
  | [],_ :: _,_,_,_,_,_,_,hs,_,_ => by simp [VSimL] at hs
  | _ :: _,[],_,_,_,_,_,_,hs,_,_ => by simp [VSimL] at hs
theorem cells_one {v : Value} (h : v.oneCell' = true) : v.cells = #[v]:=by cases v <;> simp_all [Value.cells,Value.oneCell']
theorem partD_rep {ok : Nat → Prop} {lo : Nat} {x : A} {v : Value} {ds : List D} (hd : partD x = some ds) (h : VSim w ok lo β x v) : RepL w ok v.cells.toList ds:=by
  have key : dsOf [x] = some ds → RepL w ok v.cells.toList ds:=by
    intro hd
    have h1:=VSimL.ds (w:=w) (ok:=ok) (lo:=lo) (β:=β) (xs:=[x]) (vs:=[v]) hd (by simp only [VSimL,and_true];exact h)
    have h2 : v.oneCell' = true:=RepL.one h1 v (by simp)
    rw [cells_one h2]
    exact h1
  cases x with
  | agg xs =>
    obtain ⟨vs,rfl,hs⟩:=h
    exact VSimL.ds hd hs
  | _ => exact key hd
theorem flat_set {e : Nat} {ds : List D} : ∀ {xs : List (List D)} {j : Nat},(∀ l,l ∈ xs → l.length = e) → ds.length = e → j < xs.length →
    (xs.set j ds).flatten = xs.flatten.take (j * e) ++ ds ++ xs.flatten.drop (j * e + e)
  | [],j,_,_,hj => by simp at hj
  | y :: ys,0,hu,hl,_ => by
    have hy : y.length = e:=hu y (List.mem_cons_self ..)
    simp only [List.set_cons_zero,List.flatten_cons,Nat.zero_mul,List.take_zero,List.nil_append,zero_add]
    rw [← hy,List.drop_left]
  | y :: ys,j + 1,hu,hl,hj => by
    have hy : y.length = e:=hu y (List.mem_cons_self ..)
    have ih:=flat_set (xs:=ys) (j:=j) (fun l h => hu l (List.mem_cons_of_mem _ h)) hl (by simpa using hj)
    have h1 : (j + 1) * e = y.length + j * e:=by rw [hy,Nat.succ_mul];omega
    simp only [List.set_cons_succ,List.flatten_cons,ih,h1]
    rw [List.take_length_add_append,show y.length + j * e + e = y.length + (j * e + e) by omega,List.drop_length_add_append]
    simp [List.append_assoc]
theorem lkp_killT (i j : Nat) : ∀ t : List (Nat × A),lkp (killT i t) j = .any ∨ (lkp (killT i t) j = lkp t j ∧ (lkp (killT i t) j).free (fun k => !Nat.beq k i) = true)
  | [] => .inl rfl
  | (k,x) :: t => by
    simp only [killT,lkp]
    cases Nat.beq k j with
    | false => exact lkp_killT i j t
    | true =>
      simp only [cond_true]
      cases h : x.free (fun k => !Nat.beq k i) with
      | false => exact .inl rfl
      | true => exact .inr ⟨rfl,h⟩
theorem len_killH (i : Nat) (q : O) : ∀ (h : List O) (n : Nat),(killH i n q h).length = h.length
  | [],_ => rfl
  | o :: h,n => by simp [killH,len_killH i q h (n + 1)]
theorem get_killH (i : Nat) (q : O) : ∀ (h : List O) (n j : Nat),(killH i n q h)[j]? = (h[j]?).map (fun o => bif Nat.beq (n + j) i then q else o.kill i)
  | [],n,j => by simp [killH]
  | o :: h,n,0 => by simp [killH]
  | o :: h,n,j + 1 => by
    simp only [killH,List.getElem?_cons_succ,get_killH i q h (n + 1) j]
    rw [show n + 1 + j = n + (j + 1) by omega]
theorem len_killL (i : Nat) : ∀ l : List A,(killL i l).length = l.length
  | [] => rfl
  | x :: l => by simp [killL,len_killL i l]
theorem get_killL (i : Nat) : ∀ (l : List A) (k : Nat) (y : A),(killL i l)[k]? = some y → y = .any ∨ (l[k]? = some y ∧ y.free (fun j => !Nat.beq j i) = true)
  | [],k,y,h => by simp [killL] at h
  | x :: l,0,y,h => by
    simp only [killL,List.getElem?_cons_zero,Option.some.injEq] at h ⊢
    cases hf : x.free (fun j => !Nat.beq j i) with
    | false => rw [hf] at h;exact .inl h.symm
    | true => rw [hf] at h;simp only [cond_true] at h;subst h;exact .inr ⟨rfl,hf⟩
  | x :: l,k + 1,y,h => by
    simp only [killL,List.getElem?_cons_succ] at h ⊢
    exact get_killL i l k y h
theorem set_same {α : Type} {l : List α} {i : Nat} {x : α} (h : l[i]? = some x) : l.set i x = l:=by
  apply List.ext_getElem?
  intro k
  by_cases hk : i = k
  · subst hk;rw [List.getElem?_set_self (List.getElem?_eq_some_iff.1 h).1,h]
  · rw [List.getElem?_set_ne hk]
theorem kill_other {k : Nat} {q q' : O} (h : q' = q.kill k) : (∀ u,blkOf q' u = blkOf q u) ∧ ((q' = q ∧ ∀ cells,q' ≠ .box cells) ∨ (∃ cells,q = .box cells ∧ q' = .box (killL k cells))):=by
  subst h
  cases q with
  | box cells => exact ⟨fun u => by cases u <;> first|rfl|(rename_i x;cases x <;> rfl),.inr ⟨cells,rfl,rfl⟩⟩
  | row own ety e xs => exact ⟨fun _ => rfl,.inl ⟨rfl,fun cells e => by cases e⟩⟩
  | tree xs => exact ⟨fun _ => rfl,.inl ⟨rfl,fun cells e => by cases e⟩⟩
  | dead => exact ⟨fun _ => rfl,.inl ⟨rfl,fun cells e => by cases e⟩⟩
theorem kill_blk {h : List O} {k i : Nat} {o q : O} (hi : i ≠ k) (hq : (killH k 0 o h)[i]? = some q) : ∃ q0,h[i]? = some q0 ∧ ∀ u b,b ∈ blkOf q u → b ∈ blkOf q0 u:=by
  rw [get_killH,zero_add] at hq
  obtain ⟨q',h1',h2'⟩:=Option.map_eq_some_iff.1 hq
  rw [beq_no hi] at h2'
  simp only [cond_false] at h2'
  exact ⟨q',h1',fun u b hb => by rwa [← (kill_other (k:=k) h2'.symm).1]⟩
theorem kill_blk' {h : List O} {k i : Nat} {q : O} (hq : (killH k 0 .dead h)[i]? = some q) : ∃ q0,h[i]? = some q0 ∧ ∀ u b,b ∈ blkOf q u → b ∈ blkOf q0 u:=by
  by_cases hi : i = k
  · subst hi
    rw [get_killH,zero_add] at hq
    obtain ⟨q',h1',h2'⟩:=Option.map_eq_some_iff.1 hq
    rw [Nat.beq_refl] at h2'
    simp only [cond_true] at h2'
    subst h2'
    exact ⟨q',h1',fun u b hb => by simp [blkOf] at hb⟩
  · exact kill_blk hi hq
theorem Sim.turn (S : Sim c σ β a w) {k : Nat} {o o' : O} {v v' : Value} (hi : σ.h[k]? = some o) (hv : β[k]? = some v) (hv1 : v'.oneCell' = true)
    (hfr : Fr (fun b => b ∈ blkOf o v) w w') (hb : ∀ b,b ∈ blkOf o' v' → b ∈ blkOf o v ∨ (w.heap.size ≤ b ∧ b < w'.heap.size))
    (ho : (∀ b,okOf c w σ.h β b → okOf c w' (killH k 0 o' σ.h) (β.set k v') b ∧ w'.heap[b]? = w.heap[b]?) → OSim w' (okOf c w' (killH k 0 o' σ.h) (β.set k v')) c.lo (β.set k v') o' v') :
    Sim c ⟨killT k σ.t,killH k 0 o' σ.h⟩ (β.set k v') a w':=by
  have hgi : (killH k 0 o' σ.h)[k]? = some o':=by
    rw [get_killH,hi,zero_add,Nat.beq_refl];rfl
  refine S.change (p:=fun j => !Nat.beq j k) hi hv hv1 (fun j u hj hu => ?_) hfr hb (fun j => lkp_killT k j σ.t) (len_killH k _ σ.h 0) hgi (fun j q hj hq => ?_) ho
  · have : j ≠ k:=by rintro rfl;simp [Nat.beq_refl] at hj
    rw [List.getElem?_set_ne (fun e => this e.symm)];exact hu
  · rw [get_killH,zero_add] at hq
    obtain ⟨q',h1',h2'⟩:=Option.map_eq_some_iff.1 hq
    rw [beq_no hj] at h2'
    simp only [cond_false] at h2'
    obtain ⟨g1,g2⟩:=kill_other (k:=k) h2'.symm
    refine ⟨q',h1',g1,?_⟩
    rcases g2 with ⟨rfl,g2⟩|⟨cells,rfl,rfl⟩
    · exact .inl ⟨rfl,fun cells e => absurd e (g2 cells)⟩
    · exact .inr ⟨_,cells,rfl,rfl,len_killL k cells,fun n y hy => get_killL k cells n y hy⟩
theorem Sim.kill (S : Sim c σ β a w) {k : Nat} {o : O} (hi : σ.h[k]? = some o) : Sim c ⟨killT k σ.t,killH k 0 .dead σ.h⟩ β a w:=by
  have hil:=(List.getElem?_eq_some_iff.1 hi).1
  obtain ⟨v,hv⟩ : ∃ v,β[k]? = some v:=⟨_,List.getElem?_eq_getElem (show k < β.length by rw [S.len];exact hil)⟩
  have:=S.turn (o':=.dead) (v':=v) hi hv (S.vone k v hv) (Fr.refl _ w) (fun b hb => by simp [blkOf] at hb) (fun _ => trivial)
  rwa [set_same hv] at this
theorem get_kill_row {h : List O} {i k : Nat} {own : Bool} {ety e : Nat} {xs : List (List D)} (hi : h[i]? = some (.row own ety e xs)) (hk : i ≠ k) (q : O) : (killH k 0 q h)[i]? = some (.row own ety e xs):=by
  rw [get_killH,hi,zero_add,beq_no hk];rfl
theorem Sim.kill_ok (S : Sim c σ β a w) {k : Nat} {o : O} {v : Value} (hi : σ.h[k]? = some o) (hv : β[k]? = some v) {b : Nat} (hb : b ∈ blkOf o v) : okOf c w (killH k 0 .dead σ.h) β b:=by
  have h0:=S.own k o v b hi hv hb
  refine ⟨h0.2,?_,fun j q u h1 h2 h3 => ?_⟩
  · rcases h0.1 with h|h
    · exact .inr (.inr h)
    · exact .inr (.inl h)
  · rw [get_killH,zero_add] at h1
    obtain ⟨q',g1,g2⟩:=Option.map_eq_some_iff.1 h1
    by_cases hj : j = k
    · subst hj
      rw [Nat.beq_refl] at g2
      simp only [cond_true] at g2
      subst g2
      simp [blkOf] at h3
    · rw [beq_no hj] at g2
      simp only [cond_false] at g2
      rw [(kill_other (k:=k) g2.symm).1] at h3
      exact S.sep k j o q' v u b (fun e => hj e.symm) hi hv g1 h2 hb h3
theorem D.sc_own {ok : Nat → Prop} {v : Value} {x : D} (h : Rep w ok v x) (hs : D.sc x = true) : OwnL w [v] [x] []:=by
  cases h with
  | int k n h1 h2 => exact .int k n [] [] [] h1 h2 .nil
  | bool b => exact .bool b [] [] [] .nil
  | str s h => exact .str s [] [] [] h .nil
  | sl => simp [D.sc] at hs
  | ifc0 => simp [D.sc] at hs
  | ifc1 => simp [D.sc] at hs
theorem OwnL.cons {v : Value} {x : D} {F G : List Nat} {vs : List Value} {ds : List D} (h : OwnL w [v] [x] F) (h' : OwnL w vs ds G) : OwnL w (v :: vs) (x :: ds) (F ++ G):=h.app h'
theorem scL_own {ok : Nat → Prop} : ∀ {vs : List Value} {ds : List D},RepL w ok vs ds → scL ds = true → OwnL w vs ds []
  | [],[],_,_ => .nil
  | v :: vs,d :: ds,h,hs => by
    simp only [scL,Bool.and_eq_true] at hs
    simpa using (D.sc_own h.1 hs.1).cons (scL_own h.2 hs.2)
theorem scLL_own {ok : Nat → Prop} : ∀ {xs : List (List D)} {vs : List Value},RepL w ok vs xs.flatten → scLL xs = true → OwnL w vs xs.flatten []:=by
  intro xs vs h hs
  refine scL_own h ?_
  clear h
  induction xs with
  | nil => rfl
  | cons l ls ih =>
    simp only [scLL,Bool.and_eq_true] at hs
    rw [List.flatten_cons]
    have:=ih hs.2
    have h1:=hs.1
    clear ih hs
    induction l with
    | nil => simpa using this
    | cons d l ih =>
      simp only [scL,Bool.and_eq_true] at h1
      simp only [cons_append,scL,Bool.and_eq_true]
      exact ⟨h1.1,ih h1.2⟩
theorem nilL_own {ok : Nat → Prop} : ∀ {vs : List Value} {ds : List D},RepL w ok vs ds → nilL ds = true → OwnL w vs ds []
  | [],[],_,_ => .nil
  | v :: vs,.sl [] :: ds,h,hs => by
    simp only [nilL] at hs
    have h2:=nilL_own h.2 hs
    generalize hv : D.sl [] = x at h
    obtain ⟨h1,_⟩:=h
    cases h1 with
    | int => cases hv
    | bool => cases hv
    | str => cases hv
    | ifc0 => cases hv
    | ifc1 => cases hv
    | sl xs a c U e k1 k2 k3 k4 k5 =>
      injection hv with hv
      subst hv
      exact .none a c _ _ _ h2
  | v :: vs,.sl (l :: ls) :: ds,h,hs => by simp [nilL,D.sc] at hs
  | v :: vs,.ifc b :: ds,h,hs => by simp [nilL,D.sc] at hs
  | v :: vs,.int k n :: ds,h,hs => by
    simp only [nilL,Bool.and_eq_true] at hs
    simpa using (D.sc_own h.1 hs.1).cons (nilL_own h.2 hs.2)
  | v :: vs,.bool b :: ds,h,hs => by
    simp only [nilL,Bool.and_eq_true] at hs
    simpa using (D.sc_own h.1 hs.1).cons (nilL_own h.2 hs.2)
  | v :: vs,.str s :: ds,h,hs => by
    simp only [nilL,Bool.and_eq_true] at hs
    simpa using (D.sc_own h.1 hs.1).cons (nilL_own h.2 hs.2)
theorem nilL_app : ∀ {l m : List D},nilL l = true → nilL m = true → nilL (l ++ m) = true
  | [],_,_,h => h
  | .sl [] :: l,m,h,h' => by simp only [nilL,cons_append] at h ⊢;exact nilL_app h h'
  | .sl (x :: xs) :: l,m,h,h' => by simp [nilL,D.sc] at h
  | .ifc b :: l,m,h,h' => by simp [nilL,D.sc] at h
  | .int k n :: l,m,h,h' => by simp only [nilL,cons_append,Bool.and_eq_true] at h ⊢;exact ⟨h.1,nilL_app h.2 h'⟩
  | .bool b :: l,m,h,h' => by simp only [nilL,cons_append,Bool.and_eq_true] at h ⊢;exact ⟨h.1,nilL_app h.2 h'⟩
  | .str s :: l,m,h,h' => by simp only [nilL,cons_append,Bool.and_eq_true] at h ⊢;exact ⟨h.1,nilL_app h.2 h'⟩
theorem nilLL_own {ok : Nat → Prop} {xs : List (List D)} {vs : List Value} (h : RepL w ok vs xs.flatten) (hs : nilLL xs = true) : OwnL w vs xs.flatten []:=by
  refine nilL_own h ?_
  clear h
  induction xs with
  | nil => rfl
  | cons l ls ih =>
    simp only [nilLL,Bool.and_eq_true] at hs
    rw [List.flatten_cons]
    exact nilL_app hs.1 (ih hs.2)
theorem nilO_own {σ : St} {ok : Nat → Prop} {xs : List (List D)} {vs : List Value} {x : A} (h : RepL w ok vs xs.flatten) (hs : (scLL xs || nilO σ xs x) = true) : OwnL w vs xs.flatten []:=by
  rw [Bool.or_eq_true] at hs
  rcases hs with hs|hs
  · exact scLL_own h hs
  · refine nilLL_own h ?_
    unfold nilO at hs
    split at hs
    · split at hs
      · exact hs
      · cases hs
    · cases hs
theorem sc_ds {ok : Nat → Prop} {lo : Nat} : ∀ {xs : List A} {vs : List Value} {ds : List D},dsOf xs = some ds → xs.all A.sc = true → VSimL w ok lo β xs vs → OwnL w vs ds []
  | [],[],ds,h,_,_ => by simp only [dsOf,Option.some.injEq] at h;subst h;exact .nil
  | x :: xs,v :: vs,ds,h,hs,hv => by
    simp only [List.all_cons,Bool.and_eq_true] at hs
    simp only [VSimL] at hv
    cases x with
    | d o x =>
      simp only [dsOf] at h
      split at h
      · rename_i ds' hd
        simp only [Option.some.injEq] at h
        subst h
        simpa using (D.sc_own hv.1.read hs.1).cons (sc_ds hd hs.2 hv.2)
      · cases h
    | nil =>
      simp only [dsOf] at h
      split at h
      · rename_i ds' hd
        simp only [Option.some.injEq] at h
        subst h
        have h1:=hv.1
        simp only [VSim] at h1
        subst h1
        exact .none _ _ _ _ _ (sc_ds hd hs.2 hv.2)
      · cases h
    | _ => simp [A.sc] at hs
  | [],_ :: _,_,_,_,h => by simp [VSimL] at h
  | _ :: _,[],_,_,_,h => by simp [VSimL] at h
theorem partSc_own {ok : Nat → Prop} {lo : Nat} {x : A} {v : Value} {ds : List D} (hd : partD x = some ds) (hs : partSc x = true) (h : VSim w ok lo β x v) : OwnL w v.cells.toList ds []:=by
  cases x with
  | agg xs =>
    obtain ⟨vs,rfl,hv⟩:=h
    simp only [partD] at hd
    exact sc_ds hd hs hv
  | d o x =>
    simp only [partD] at hd
    have h1:=sc_ds (w:=w) (ok:=ok) (lo:=lo) (β:=β) (xs:=[.d o x]) (vs:=[v]) hd (by simpa [partSc] using hs) (by simp only [VSimL,and_true];exact h)
    have h2 : v.oneCell' = true:=h.read.one
    have h3 : v.cells = #[v]:=by cases v <;> simp_all [Value.cells,Value.oneCell']
    rw [h3];exact h1
  | nil =>
    simp only [partD] at hd
    have h1:=sc_ds (w:=w) (ok:=ok) (lo:=lo) (β:=β) (xs:=[.nil]) (vs:=[v]) hd rfl (by simp only [VSimL,and_true];exact h)
    simp only [VSim] at h
    subst h
    exact h1
  | _ => simp [partSc,A.sc] at hs
theorem cellsT_own (S : Sim c σ β a w) {ok : Nat → Prop} {lo : Nat} : ∀ {xs : List A} {vs : List Value} {ds : List D} {k : Option Nat},cellsT σ xs = some (ds,k) → VSimL w ok lo β xs vs →
    ∃ F,OwnL w vs ds F ∧ (k = none → F = []) ∧ ∀ j,k = some j → ∃ ys u,σ.h[j]? = some (.tree ys) ∧ β[j]? = some (tv u F)
  | [],[],ds,k,h,_ => by
    simp only [cellsT,Option.some.injEq,Prod.mk.injEq] at h
    obtain ⟨rfl,rfl⟩:=h
    exact ⟨[],.nil,fun _ => rfl,fun j hj => by cases hj⟩
  | .d o x :: r,v :: vs,ds,k,h,hv => by
    simp only [cellsT] at h
    split at h
    · rename_i ds' k' h1 h2
      simp only [Option.some.injEq,Prod.mk.injEq] at h
      obtain ⟨rfl,rfl⟩:=h
      simp only [VSimL] at hv
      obtain ⟨F,g1,g2,g3⟩:=cellsT_own S h2 hv.2
      exact ⟨F,(D.sc_own hv.1.read h1).cons g1,g2,g3⟩
    · cases h
  | .nil :: r,v :: vs,ds,k,h,hv => by
    simp only [cellsT] at h
    split at h
    · rename_i ds' k' h2
      simp only [Option.some.injEq,Prod.mk.injEq] at h
      obtain ⟨rfl,rfl⟩:=h
      simp only [VSimL,VSim] at hv
      obtain ⟨F,g1,g2,g3⟩:=cellsT_own S h2 hv.2
      obtain ⟨rfl,hv⟩:=hv
      exact ⟨F,.none _ _ _ _ _ g1,g2,g3⟩
    · cases h
  | .otr j :: r,v :: vs,ds,k,h,hv => by
    simp only [cellsT] at h
    split at h
    · rename_i xs ds' h1 h2
      simp only [Option.some.injEq,Prod.mk.injEq] at h
      obtain ⟨rfl,rfl⟩:=h
      simp only [VSimL,VSim] at hv
      obtain ⟨G,g1,g2,g3⟩:=cellsT_own S h2 hv.2
      rw [g2 rfl] at g1
      obtain ⟨⟨⟨F,hb⟩,_⟩,_⟩:=hv
      obtain ⟨u,F',he,k1,k2,k3⟩:=tree_of S h1 hb
      obtain ⟨rfl,rfl⟩:=tv_inj he
      exact ⟨F,by simpa using k1.cons g1,fun h => (by cases h),fun j' hj => by cases hj;exact ⟨xs,v,h1,hb⟩⟩
    · cases h
  | [],_ :: _,_,_,_,h => by simp [VSimL] at h
  | _ :: _,[],_,_,_,h => by simp [VSimL] at h
  | .any :: _,_ :: _,_,_,h,_|.ptr _ _ :: _,_ :: _,_,_,h,_|.osl _ :: _,_ :: _,_,_,h,_|.optr _ _ _ _ :: _,_ :: _,_,_,h,_|.ep _ _ :: _,_ :: _,_,_,h,_|.fn _ _ :: _,_ :: _,_,_,h,_|.agg _ :: _,_ :: _,_,_,h,_|.tup _ :: _,_ :: _,_,_,h,_|.opt _ _ :: _,_ :: _,_,_,h,_ => by simp [cellsT] at h
theorem partC_own (S : Sim c σ β a w) {ok : Nat → Prop} {lo : Nat} {x : A} {v : Value} {ds : List D} {k : Option Nat} (h : partC σ x = some (ds,k)) (hv : VSim w ok lo β x v) :
    ∃ F,OwnL w v.cells.toList ds F ∧ (k = none → F = []) ∧ ∀ j,k = some j → ∃ ys u,σ.h[j]? = some (.tree ys) ∧ β[j]? = some (tv u F):=by
  have key : cellsT σ [x] = some (ds,k) → v.oneCell' = true → ∃ F,OwnL w v.cells.toList ds F ∧ (k = none → F = []) ∧ ∀ j,k = some j → ∃ ys u,σ.h[j]? = some (.tree ys) ∧ β[j]? = some (tv u F):=by
    intro h h1
    have h3 : v.cells = #[v]:=by cases v <;> simp_all [Value.cells,Value.oneCell']
    rw [h3]
    exact cellsT_own S (xs:=[x]) (vs:=[v]) h (by simp only [VSimL,and_true];exact hv)
  cases x with
  | agg xs =>
    obtain ⟨vs,rfl,hv⟩:=hv
    simp only [partC] at h
    exact cellsT_own S h hv
  | d o x => exact key h hv.read.one
  | nil => simp only [VSim] at hv;subst hv;exact key h rfl
  | otr j => simp only [VSim] at hv;exact key h hv.2
  | _ => simp [partC,cellsT] at h
theorem row_store (S : Sim c σ β a w) {i : Nat} {own own' : Bool} {ety e : Nat} {xs : List (List D)} (hi : σ.h[i]? = some (.row own ety e xs)) {g nn cap : Nat} (hb : β[i]? = some (.slice (some ⟨g,0,none⟩) nn cap)) {vs : List Value} {ds : List D}
    (hr : RepL w (okOf c w σ.h β) vs ds) (hl : ds.length = e) {j : Nat} (hj : j < xs.length)
    (ho : own' = true → own = true ∧ ∃ G,OwnL w vs ds G ∧ G.Nodup ∧ (∀ b,b ∈ G → okOf c w σ.h β b ∧ c.lo ≤ b) ∧ ∀ inner F,w.ownsRow 0 ety e (.slice (some ⟨g,0,none⟩) nn cap) xs.length inner → OwnL w inner xs.flatten F → ∀ b,b ∈ F → b ∉ G) :
    ∃ w',(storeCells ⟨g,j * e + 0,none⟩ vs 0).run P w = .ok () w' ∧ Sim c ⟨σ.t,σ.h.set i (.row own' ety e (xs.set j ds))⟩ β a w' ∧ Fr (fun x => x = g) w w':=by
  obtain ⟨inner,hown,hu,hm,hrep,hOwn⟩:=row_of S hi hb
  have hown0:=hown
  have hil:=(List.getElem?_eq_some_iff.1 hi).1
  rcases hown.2 with ⟨h,_⟩|⟨g',cap',cur,hv,hg0,hh,hn,hc,hs,ht⟩
  · cases h
  injection hv with h1 h2 h3
  injection h1 with h1
  injection h1 with h1
  subst h1;subst h2;subst h3
  have hvl:=RepL.length hr
  have hfit : j * e + 0 + 0 + vs.length ≤ cur.size:=by
    have h1 : j * e + e ≤ cap * e:=by rw [← Nat.succ_mul];exact Nat.mul_le_mul_right _ (by omega)
    rw [hs,hvl,hl]
    omega
  have hst:=run_storeCells_at P g (j * e + 0) ety vs 0 cur w hh hfit (RepL.one hr)
  refine ⟨_,hst,?_⟩
  have hβ : β.set i (.slice (some ⟨g,0,none⟩) xs.length cap) = β:=by
    apply List.ext_getElem?
    intro k
    by_cases hk : i = k
    · subst hk;rw [List.getElem?_set_self (List.getElem?_eq_some_iff.1 hb).1,hb]
    · rw [List.getElem?_set_ne hk]
  simp only [Nat.add_zero] at hst hfit ⊢
  have:=S.change (i:=i) (o:=.row own ety e xs) (o':=.row own' ety e (xs.set j ds)) (v:=.slice (some ⟨g,0,none⟩) xs.length cap) (v':=.slice (some ⟨g,0,none⟩) xs.length cap) (p:=fun _ => true) (t:=σ.t) (h':=σ.h.set i (.row own' ety e (xs.set j ds)))
    (w':=w.setRow g (cur.toList.take (j * e) ++ vs ++ cur.toList.drop (j * e + vs.length)).toArray) hi hb rfl (fun k u _ hk => by rw [hβ];exact hk)
    ⟨rfl,rfl,rfl,by simp,fun b hb' hne => setRow_other w g b _ (fun e => hne (by rw [e];exact blk_row.2 rfl))⟩ (fun b hb' => .inl (blk_row.2 (blk_row.1 hb'))) (fun k => .inr ⟨rfl,A.free_true _⟩) (by simp) (by simp [hil])
    (fun k q hk hq => by
      rw [List.getElem?_set_ne (fun e => hk e.symm)] at hq
      exact ⟨q,hq,fun _ => rfl,.inl ⟨rfl,fun cells _ => A.freeL_true _⟩⟩)
    (fun hok => by
      refine ⟨inner.take (j * e) ++ vs ++ inner.drop (j * e + vs.length),⟨?_,.inr ⟨g,cap,_,by simp,Nat.zero_le _,setRow_heap w g cur _ ety (0,0) hh,by simpa using hn,hc,?_,?_⟩⟩,?_,by simpa using hm,?_,fun ho' => ?_⟩
      · have h1:=hown.1
        have h2 : j * e + e ≤ xs.length * e:=by rw [← Nat.succ_mul];exact Nat.mul_le_mul_right _ (by omega)
        simp only [length_append,List.length_take,List.length_drop,List.length_set,hvl,hl,h1]
        omega
      · have h2 : j * e + e ≤ cur.size:=by rw [hs,← Nat.succ_mul];exact Nat.mul_le_mul_right _ (by omega)
        simp only [List.size_toArray,length_append,List.length_take,List.length_drop,Array.length_toList,hvl,hl]
        rw [← hs];omega
      · have h2 : j * e + e ≤ xs.length * e:=by rw [← Nat.succ_mul];exact Nat.mul_le_mul_right _ (by omega)
        have h3 : xs.length * e ≤ cur.size:=by rw [hs];exact Nat.mul_le_mul_right _ hn
        subst ht
        simp only [List.length_set]
        apply List.ext_getElem?
        intro k
        simp only [List.getElem?_take,List.getElem?_append,length_append,List.length_take,Array.length_toList,List.getElem?_drop,hvl,hl]
        rw [Nat.min_eq_left h3,Nat.min_eq_left (show j * e ≤ cur.size by omega),Nat.min_eq_left (show j * e ≤ xs.length * e by omega)]
        by_cases hk1 : k < j * e + e
        · by_cases hk2 : k < j * e
          · rw [if_pos (show k < xs.length * e by omega),if_pos hk1,if_pos hk2,if_pos hk2,if_pos hk1,if_pos hk2,if_pos hk2,if_pos (show k < xs.length * e by omega)]
          · rw [if_pos (show k < xs.length * e by omega),if_pos hk1,if_neg hk2,if_pos hk1,if_neg hk2]
        · have e1 : j * e + e + (k - (j * e + e)) = k:=by omega
          rw [if_neg hk1,if_neg hk1,e1]
      · intro l hl'
        rcases List.mem_or_eq_of_mem_set hl' with h|h
        · exact hu l h
        · rw [h];exact hl
      · rw [flat_set hu hl hj]
        have h1:=hrep.move (w':=w.setRow g (cur.toList.take (j * e) ++ vs ++ cur.toList.drop (j * e + vs.length)).toArray) (ok':=okOf c (w.setRow g (cur.toList.take (j * e) ++ vs ++ cur.toList.drop (j * e + vs.length)).toArray) (σ.h.set i (.row own' ety e (xs.set j ds))) (β.set i (.slice (some ⟨g,0,none⟩) xs.length cap))) hok
        have h2:=hr.move hok
        rw [hvl,hl] at h1 h2 ⊢
        exact ((h1.take (j * e)).app h2).app (h1.drop (j * e + e))
      · obtain ⟨hot,G,k1,k2,k3,k4⟩:=ho ho'
        obtain ⟨g0,F,g1,g2,g3⟩:=hOwn hot
        have hdis:=k4 inner F hown0 g1
        obtain ⟨Fa,Fr,hF,m1,m2⟩:=g1.split (j * e)
        obtain ⟨Fb,Fc,hF2,m3,m4⟩:=m2.split e
        rw [List.drop_drop] at m4
        rw [List.drop_drop] at m4
        subst hF2;subst hF
        have hmv : ∀ b,b ∈ Fa ∨ b ∈ Fc ∨ b ∈ G → okOf c w σ.h β b ∧ c.lo ≤ b:=fun b hb => by
          rcases hb with h|h|h
          · exact g3 b (by simp [h])
          · exact g3 b (by simp [h])
          · exact k3 b h
        refine ⟨fun b hb' => g0 b hb',Fa ++ G ++ Fc,?_,?_,fun b hb' => ?_⟩
        · rw [flat_set hu hl hj,show inner.drop (j * e + vs.length) = inner.drop (j * e + e) by rw [hvl,hl]]
          refine OwnL.move ((m1.app k1).app m4) (fun b hb' => (hok b (hmv b ?_).1).2)
          simp only [List.mem_append] at hb'
          rcases hb' with (h|h)|h <;> simp [h]
        · simp only [List.nodup_append,List.mem_append] at g2 hdis ⊢
          refine ⟨⟨g2.1,k2,fun x hx y hy e => ?_⟩,g2.2.1.2.1,fun x hx y hy e => ?_⟩
          · subst e;exact hdis x (.inl hx) hy
          · subst e
            rcases hx with hx|hx
            · exact g2.2.2 x hx x (.inr hy) rfl
            · exact hdis x (.inr (.inr hy)) hx
        · simp only [List.mem_append] at hb'
          have:=hmv b (by rcases hb' with (h|h)|h <;> simp [h])
          exact ⟨(hok b this.1).1,this.2⟩)
  rw [hβ] at this
  exact ⟨this,rfl,rfl,rfl,by simp,fun b hb' hne => setRow_other w g b _ hne⟩
theorem nw_set {T : Nat → Prop} {h h' : List O} {i g : Nat} {o : O} {v : Value} (hi : h[i]? = some o) (hv : β[i]? = some v) (hg : g ∈ blkOf o v) (hT : T i) (hf : Fr (fun x => x = g) w w') (hb : ∀ q',h'[i]? = some q' → ∀ b,b ∈ blkOf q' v → b ∈ blkOf o v ∨ w.heap.size ≤ b)
    (ho : ∀ j q',j ≠ i → h'[j]? = some q' → ∃ q,h[j]? = some q ∧ ∀ u b,b ∈ blkOf q' u → b ∈ blkOf q u) : NwG T h β w h' β w':=by
  have:=NwG.one (T:=T) (h:=h) (h':=h') (β:=β) (w:=w) (w':=w') (k:=i) (v':=v) ⟨hf.os,hf.tape,hf.output,hf.size,fun b hb' hne => hf.block b hb' (fun e => hne ⟨i,o,v,hT,hi,hv,by rw [e];exact hg⟩)⟩
    (fun q' b hq hb' => by
      rcases hb q' hq b hb' with h1|h1
      · exact .inr ⟨o,v,hi,hv,h1⟩
      · exact .inl h1) ho
  rwa [set_same hv] at this
theorem ok_st (S : Sim c σ β a w) {t : TypeId} {x y : Operand} (ho : o.op = .store t x y) (hi : (P.info? t).isSome = true) : ResOk P c o σ β a w ((I.st (P.cellsOf t) (toX x) (toX y)).res σ):=by
  obtain ⟨ti,hti⟩:=Option.isSome_iff_exists.1 hi
  have hsz:=cellsOf_eq hti
  have hx:=S.ev x
  have hy:=S.ev y
  have hrun : ∀ ad w',a.eval x = .pointer (some ad) → (a.eval y).cells.size = P.cellsOf t → (storeCells ad (a.eval y).cells.toList 0).run P w = .ok () w' → (execOp a.eval o).run P w = .ok .skip w':=by
    intro ad w' h1 h2 h3
    rw [hsz] at h2
    simp [execOp,ho,h1,Instr.storeAt,Instr.sureAddr,storeVar,sizeOf,typeInfo,hti,h2,h3]
  simp only [I.res]
  split
  · rename_i i off hp
    have hp0:=hp
    split
    · rename_i cells hobj
      rw [hp] at hx
      obtain ⟨b,hb,hv⟩:=hx
      have key : ∀ yy,(toX y).ev σ = yy → one yy = true → ResOk P c o σ β a w (.st (P.cellsOf t = 1 ∧ off < cells.length) ⟨σ.t,σ.h.set i (.box (cells.set off yy))⟩ .any):=by
        intro yy hyy h1 hp
        rw [hyy] at hy
        have hone:=one_of S.vone h1 hy
        obtain ⟨w',hr,S',F'⟩:=store_cells (P:=P) i b hb off [yy] [a.eval y] σ w 0 cells S hobj (by simp only [VSimL,and_true];exact hy) (by simp;omega) (by simp [h1])
        refine .inr ⟨w',hrun _ _ hv ?_ ?_,β,S',by simp [VSim],by
          unfold Nw;rw [ho];dsimp only
          refine nw_set (g:=b) hobj hb (by simp [blkOf]) (by unfold tchO;rw [ho];simp only [hp0,Nat.beq_refl]) F' (fun q' hq' b' hb' => ?_) (fun j q' hj hq' => ?_)
          · rw [List.getElem?_set_self (List.getElem?_eq_some_iff.1 hobj).1] at hq'
            injection hq' with hq'
            subst hq'
            exact .inl hb'
          · rw [List.getElem?_set_ne (fun e => hj e.symm)] at hq'
            exact ⟨q',hq',fun _ _ h => h⟩⟩
        · rw [cells_one hone,hp.1];rfl
        · rw [cells_one hone];exact hr
      split
      · rename_i xs hys
        cases hall : xs.all one with
        | false => trivial
        | true =>
          rw [hys] at hy
          obtain ⟨vs,hvs,hs⟩:=hy
          intro hp
          obtain ⟨w',hr,S',F'⟩:=store_cells (P:=P) i b hb off xs vs σ w 0 cells S hobj hs (by omega) hall
          refine .inr ⟨w',hrun _ _ hv ?_ ?_,β,S',by simp [VSim],by
          unfold Nw;rw [ho];dsimp only
          refine nw_set (g:=b) hobj hb (by simp [blkOf]) (by unfold tchO;rw [ho];simp only [hp0,Nat.beq_refl]) F' (fun q' hq' b' hb' => ?_) (fun j q' hj hq' => ?_)
          · rw [List.getElem?_set_self (List.getElem?_eq_some_iff.1 hobj).1] at hq'
            injection hq' with hq'
            subst hq'
            exact .inl hb'
          · rw [List.getElem?_set_ne (fun e => hj e.symm)] at hq'
            exact ⟨q',hq',fun _ _ h => h⟩⟩
          · rw [hvs,← hp.1,← VSimL.length hs];rfl
          · rw [hvs];exact hr
      · cases h1 : one ((toX y).ev σ) with
        | true => exact key _ rfl h1
        | false => trivial
    · trivial
  · rename_i i j e off hp
    have hp0:=hp
    split
    · rename_i own ety e' xs hobj
      split
      · rename_i ds hds
        rintro ⟨h0,hn,he,hl,hj⟩
        subst h0;subst he
        rw [hp] at hx
        obtain ⟨g,nn,cap,hb,hv⟩:=hx
        have hr:=partD_rep hds hy
        obtain ⟨w',hrs,S',F'⟩:=row_store (P:=P) (own':=own && partSc ((toX y).ev σ)) S hobj hb hr hl hj (fun ho => by
          simp only [Bool.and_eq_true] at ho
          exact ⟨ho.1,[],partSc_own hds ho.2 hy,List.nodup_nil,(fun b hb => by cases hb),(fun _ _ _ _ b _ hb => by cases hb)⟩)
        refine .inr ⟨w',hrun _ _ hv ?_ ?_,β,S',by simp [VSim],by
          unfold Nw;rw [ho];dsimp only
          refine nw_set (g:=g) hobj hb (blk_row.2 rfl) (by unfold tchO;rw [ho];simp only [hp0,Nat.beq_refl]) F' (fun q' hq' b' hb' => ?_) (fun j q' hj hq' => ?_)
          · rw [List.getElem?_set_self (List.getElem?_eq_some_iff.1 hobj).1] at hq'
            injection hq' with hq'
            subst hq'
            exact .inl hb'
          · rw [List.getElem?_set_ne (fun e => hj e.symm)] at hq'
            exact ⟨q',hq',fun _ _ h => h⟩⟩
        · rw [← Array.length_toList,RepL.length hr,hl,hn]
        · simpa using hrs
      · split
        · rename_i ds k hpc
          rintro ⟨h0,hn,he,hl,hj⟩
          subst h0;subst he
          rw [hp] at hx
          obtain ⟨g,nn,cap,hb,hv⟩:=hx
          obtain ⟨F,f1,_,f3⟩:=partC_own S hpc hy
          obtain ⟨ys,u,t1,t2⟩:=f3 k rfl
          have hik : i ≠ k:=by rintro rfl;rw [hobj] at t1;cases t1
          obtain ⟨u',F',he',t3,t4,t5⟩:=tree_of S t1 t2
          obtain ⟨rfl,rfl⟩:=tv_inj he'
          have hblk : ∀ b,b ∈ F → b ∈ blkOf (.tree ys) (tv u F):=fun b hb => by simpa [blkOf,tvF_tv] using hb
          have S1:=S.kill t1
          have hok1 : ∀ b,b ∈ F → okOf c w (killH k 0 .dead σ.h) β b:=fun b hb => S.kill_ok t1 t2 (hblk b hb)
          have hr:=f1.rep hok1
          obtain ⟨inner0,o1,o2,o3,o4,o5⟩:=row_of S hobj hb
          obtain ⟨p1,F0,p2,p3,p4⟩:=o5 rfl
          obtain ⟨w',hrs,S',F''⟩:=row_store (P:=P) (own:=true) (own':=true) S1 (get_kill_row hobj hik _) hb hr hl hj (fun _ => ⟨rfl,F,f1,t4,fun b hb => ⟨hok1 b hb,t5 b hb⟩,fun inner F2 q1 q2 b hbF hbG => by
            have hin : inner = inner0:=by
              rcases o1.2 with ⟨h,_⟩|⟨g1,c1,cur1,h,_,hh1,_,_,_,ht1⟩
              · cases h
              rcases q1.2 with ⟨h',_⟩|⟨g2,c2,cur2,h',_,hh2,_,_,_,ht2⟩
              · cases h'
              rw [h] at h'
              injection h' with h1' h2' h3'
              injection h1' with h1'
              injection h1' with h1'
              subst h1'
              rw [hh1] at hh2
              simp only [Option.some.injEq,Obj.cells.injEq,and_true] at hh2
              rw [← ht1,← ht2,hh2]
            subst hin
            have:=p2.det q2
            subst this
            exact (p4 b hbF).1.2.2 k _ _ t1 t2 (hblk b hbG)⟩)
          refine .inr ⟨w',hrun _ _ hv ?_ ?_,β,S',by simp [VSim],by
            unfold Nw;rw [ho];dsimp only
            refine nw_set (g:=g) hobj hb (blk_row.2 rfl) (by unfold tchO;rw [ho];simp only [hp0,Nat.beq_refl]) F'' (fun q' hq' b' hb' => ?_) (fun j q' hj hq' => ?_)
            · have hkl : i < (killH k 0 .dead σ.h).length:=by rw [len_killH];exact (List.getElem?_eq_some_iff.1 hobj).1
              rw [List.getElem?_set_self hkl] at hq'
              injection hq' with hq'
              subst hq'
              exact .inl hb'
            · rw [List.getElem?_set_ne (fun e => hj e.symm)] at hq'
              exact kill_blk' hq'⟩
          · rw [← Array.length_toList,RepL.length hr,hl,hn]
          · simpa using hrs
        · trivial
    · trivial
  · trivial
end
end Go.Proofs.YtlddcimpdkcgeaaGreatDoor.Sym
