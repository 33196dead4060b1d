/- Instructions: the rest; all of them. -/
import Derived.Test.YtlddcimpdkcgeaaGreatDoorS6
import Derived.Maps.AppendAt
import Derived.Laws.Build
import Derived.Laws.Concat
set_option linter.unusedVariables false
set_option linter.unusedSimpArgs false
namespace Go.Proofs.YtlddcimpdkcgeaaGreatDoor.Sym
open Nat (zero_add)
open Go.RowKit
section
variable {P : Program} {c : Cx} {σ : St} {β : List Value} {a : Act} {w w' : World} {o : Oper}
theorem tmod_range (x y : Int) (h : 0 < y) (h1 : -9223372036854775808 ≤ x) (h2 : x ≤ 9223372036854775807) : -9223372036854775808 ≤ x.tmod y ∧ x.tmod y ≤ 9223372036854775807:=by
  rcases Int.lt_or_le x 0 with hx|hx
  · have e : x.tmod y = -((-x).tmod y):=by rw [Int.neg_tmod];omega
    have h3 : 0 ≤ (-x).tmod y:=Int.tmod_nonneg _ (by omega)
    have h4 : (-x).tmod y ≤ -x:=by
      rw [Int.tmod_eq_emod_of_nonneg (by omega)]
      have:=Int.emod_nonneg (-x) (show y ≠ 0 by omega)
      have:=Int.mul_ediv_add_emod (-x) y
      have : 0 ≤ y * (-x / y):=Int.mul_nonneg (by omega) (Int.ediv_nonneg (by omega) (by omega))
      omega
    omega
  · have h3 : 0 ≤ x.tmod y:=Int.tmod_nonneg _ hx
    have h4 : x.tmod y ≤ x:=by
      rw [Int.tmod_eq_emod_of_nonneg hx]
      have:=Int.mul_ediv_add_emod x y
      have : 0 ≤ y * (x / y):=Int.mul_nonneg (by omega) (Int.ediv_nonneg (by omega) (by omega))
      omega
    omega
theorem shrI_range (x y : Int) (h1 : -9223372036854775808 ≤ x) (h2 : x ≤ 9223372036854775807) : -9223372036854775808 ≤ shrI x y ∧ shrI x y ≤ 9223372036854775807:=by
  unfold shrI
  have hp : (0 : Int) < 2 ^ (min y.toNat 64):=Int.pow_pos (by decide)
  generalize (2 : Int) ^ (min y.toNat 64) = m at hp
  rw [Int.fdiv_eq_ediv_of_nonneg x (by omega)]
  have h3:=Int.mul_ediv_add_emod x m
  have h4:=Int.emod_nonneg x (show m ≠ 0 by omega)
  have h5:=Int.emod_lt_of_pos x hp
  generalize x / m = q at *
  constructor
  · rcases Int.lt_or_le q 0 with hq|hq
    · have : m * q ≤ q:=by
        have:=Int.mul_le_mul_of_nonpos_right (show 1 ≤ m by omega) (show q ≤ 0 by omega)
        omega
      rcases Int.lt_or_le (-9223372036854775809) q with h|h
      · omega
      · exfalso
        have h6 : m * q + m ≤ q + 1:=by
          have h7 : m * (q + 1) ≤ 1 * (q + 1):=Int.mul_le_mul_of_nonpos_right (show 1 ≤ m by omega) (by omega)
          rw [Int.mul_add] at h7
          omega
        omega
    · omega
  · rcases Int.lt_or_le q 0 with hq|hq
    · omega
    · have : q ≤ m * q:=by
        have:=Int.mul_le_mul_of_nonneg_right (show 1 ≤ m by omega) hq
        omega
      omega
theorem wrap_min (n : Int) : IntKind.i64.min ≤ IntKind.i64.wrap n:=by rw [wrap64_eq,i64_min];exact (wrap64_range n).1
theorem wrap_max (n : Int) : IntKind.i64.wrap n ≤ IntKind.i64.max:=by rw [wrap64_eq,i64_max];exact (wrap64_range n).2
theorem aBin_ok {ok : Nat → Prop} {lo : Nat} {op : BinOp} {t : TypeId} {x y r : A} {u v : Value} {p : Prop} {X Y : Operand} (hb : aBin op x y = some (p,r)) (hx : VSim w ok lo β x u) (hy : VSim w ok lo β y v) (hp : p) :
    ∃ z,(∀ w',(do eqGuard op t X Y u v;binOp op t u v : Sem Value).run P w' = .ok z w') ∧ VSim w ok lo β r z:=by
  unfold aBin at hb
  have i64:=@i64_min
  have i64':=@i64_max
  split at hb <;> simp only [Option.some.injEq,Prod.mk.injEq,reduceCtorEq] at hb <;> obtain ⟨rfl,rfl⟩:=hb
  · rw [(vint hx).1,(vint hy).1];exact ⟨_,fun w' => by simp [eqGuard,binOp,Op.intArith,wrap64_eq],vsim_int _ _ (wrap64_range _).1 (wrap64_range _).2⟩
  · rw [(vint hx).1,(vint hy).1];exact ⟨_,fun w' => by simp [eqGuard,binOp,Op.intArith,wrap64_eq],vsim_int _ _ (wrap64_range _).1 (wrap64_range _).2⟩
  · rw [(vint hx).1,(vint hy).1];exact ⟨_,fun w' => by simp [eqGuard,binOp,Op.intArith,wrap64_eq],vsim_int _ _ (wrap64_range _).1 (wrap64_range _).2⟩
  · rw [(vint hx).1,(vint hy).1];exact ⟨_,fun w' => by simp [eqGuard,binOp,Op.intDiv,wrap64_eq,hp],vsim_int _ _ (wrap64_range _).1 (wrap64_range _).2⟩
  · have h1:=(vint hx).2
    rw [(vint hx).1,(vint hy).1]
    rw [i64_min,i64_max] at h1
    have:=tmod_range _ _ hp h1.1 h1.2
    exact ⟨_,fun w' => by simp [eqGuard,binOp,Op.intDiv,show _ ≠ (0 : Int) from Int.ne_of_gt hp],vsim_int _ _ (by rw [i64_min];exact this.1) (by rw [i64_max];exact this.2)⟩
  · rw [(vint hx).1,(vint hy).1];exact ⟨_,fun w' => by simp [eqGuard,binOp,Op.intCmp];rfl,vsim_bool _⟩
  · rw [(vint hx).1,(vint hy).1];exact ⟨_,fun w' => by simp [eqGuard,binOp,Op.intCmp];rfl,vsim_bool _⟩
  · rw [(vint hx).1,(vint hy).1];exact ⟨_,fun w' => by simp [eqGuard,binOp,Op.intCmp],vsim_bool _⟩
  · rw [(vint hx).1,(vint hy).1];exact ⟨_,fun w' => by simp [eqGuard,binOp,Op.intCmp],vsim_bool _⟩
  · rw [(vint hx).1,(vint hy).1];exact ⟨_,fun w' => by simp [eqGuard,binOp,Op.intCmp],vsim_bool _⟩
  · rw [(vint hx).1,(vint hy).1];exact ⟨_,fun w' => by simp [eqGuard,binOp,Op.intCmp],vsim_bool _⟩
  · rw [(vint hx).1,(vint hy).1];exact ⟨_,fun w' => by simp [eqGuard,binOp,Op.intCmp];rfl,vsim_bool _⟩
  · rw [(vint hx).1,(vint hy).1];exact ⟨_,fun w' => by simp [eqGuard,binOp,Op.intCmp];rfl,vsim_bool _⟩
  · rw [(vint hx).1,(vint hy).1];exact ⟨_,fun w' => by simp [eqGuard,binOp,Op.intCmp],vsim_bool _⟩
  · rw [(vint hx).1,(vint hy).1];exact ⟨_,fun w' => by simp [eqGuard,binOp,Op.intCmp],vsim_bool _⟩
  · rw [(vint hx).1,(vint hy).1];exact ⟨_,fun w' => by simp [eqGuard,binOp,Op.intCmp],vsim_bool _⟩
  · rw [(vint hx).1,(vint hy).1];exact ⟨_,fun w' => by simp [eqGuard,binOp,Op.intCmp],vsim_bool _⟩
  · rw [(vstr hx).1,(vstr hy).1]
    exact ⟨_,fun w' => by simp [eqGuard,binOp];exact run_string_add_sum _ _ _ (by omega),vsim_str _ (by simpa using hp)⟩
  · rw [(vstr hx).1,(vstr hy).1];exact ⟨_,fun w' => by simp [eqGuard,binOp,Op.stringOp];rfl,vsim_bool _⟩
  · rw [(vstr hx).1,(vstr hy).1];exact ⟨_,fun w' => by simp [eqGuard,binOp,Op.stringOp];rfl,vsim_bool _⟩
  · rw [(vstr hx).1,(vstr hy).1];exact ⟨_,fun w' => by simp [eqGuard,binOp,Op.stringOp];rfl,vsim_bool _⟩
  · rw [(vstr hx).1,(vstr hy).1];exact ⟨_,fun w' => by simp [eqGuard,binOp,Op.stringOp];rfl,vsim_bool _⟩
  · have h1:=(vint hx).2
    rw [(vint hx).1,(vint hy).1]
    rw [i64_min,i64_max] at h1
    have h2:=fun y => shrI_range _ y h1.1 h1.2
    refine ⟨_,fun w' => ?_,vsim_int _ _ (by rw [i64_min];exact (h2 _).1) (by rw [i64_max];exact (h2 _).2)⟩
    simp only [eqGuard,binOp,Op.shift,if_neg (Int.not_lt.2 hp),IntKind.bits,shrI]
    rfl
  · rw [(vint hx).1,(vint hy).1]
    exact ⟨_,fun w' => by simp only [eqGuard,binOp,Op.intBits,andI];rfl,vsim_int _ _ (wrap_min _) (wrap_max _)⟩
  · rw [(vint hx).1,(vint hy).1]
    exact ⟨_,fun w' => by simp only [eqGuard,binOp,Op.intBits,xorI];rfl,vsim_int _ _ (wrap_min _) (wrap_max _)⟩
theorem ok_bin (S : Sim c σ β a w) {op : BinOp} {t u : TypeId} {x y : Operand} (ho : o.op = .binOp op t x y u) : ResOk P c o σ β a w ((I.bin op (toX x) (toX y)).res σ):=by
  have hx:=S.ev x
  have hy:=S.ev y
  simp only [I.res]
  split
  · rename_i p r hb
    rintro ⟨g1,g2,hp⟩
    obtain ⟨z,hz,hs⟩:=aBin_ok (P:=P) (t:=t) (X:=x) (Y:=y) hb (hx.peel g1) (hy.peel g2) hp
    refine ⟨z,fun w' _ _ _ => ?_,hs⟩
    have : (execOp a.eval o).run P w' = ((do eqGuard op t x y (a.eval x) (a.eval y);binOp op t (a.eval x) (a.eval y) : Sem Value) >>= fun v => pure (.value v)).run P w':=by
      simp [execOp,ho]
    rw [this,Sem.run_bind,hz];rfl
  · trivial
theorem ok_beq (S : Sim c σ β a w) {op : BinOp} {t u : TypeId} {x y : Operand} (n : Bool) (hop : op = if n then .neq else .eql) (ht : P.underlying t = some .bool) (ho : o.op = .binOp op t x y u) : ResOk P c o σ β a w ((I.beq n (toX x) (toX y)).res σ):=by
  have hx:=S.ev x
  have hy:=S.ev y
  simp only [I.res]
  split
  · rename_i o1 p o2 q h1 h2
    rintro ⟨g1,g2⟩
    have hx:=hx.peel g1
    have hy:=hy.peel g2
    rw [h1] at hx
    rw [h2] at hy
    have hxv:=vbool hx
    have hyv:=vbool hy
    refine ⟨.bool (bif n then !(p == q) else p == q),fun w' _ _ _ => ?_,vsim_bool _⟩
    have he : ∀ w',(Op.equal t (.bool p) (.bool q)).run P w' = .ok (p == q) w':=fun w' => by
      have h : ∀ d : Nat,(Op.equalIn (d + 1) t (.bool p) (.bool q)).run P w' = .ok (p == q) w':=fun d => by
        simp only [Op.equalIn,Sem.run_bind,run_underlying ht,Result.andThen_ok,Sem.run_pure]
      simp only [Op.equal,Op.maxDepth]
      exact h 9999
    subst hop
    cases n <;> simp [execOp,ho,hxv,hyv,eqGuard,binOp,he]
  · trivial
theorem ok_inl (S : Sim c σ β a w) {op : BinOp} {t u : TypeId} {x : Operand} (n : Bool) (hop : op = if n then .neq else .eql) (ht : ∃ ms,P.underlying t = some (.interface ms)) (ho : o.op = .binOp op t x (.const .nilIface) u) : ResOk P c o σ β a w ((I.inl n (toX x)).res σ):=by
  obtain ⟨ms,ht⟩:=ht
  have hx:=S.ev x
  have hc : a.eval (.const .nilIface) = .nilIface:=rfl
  simp only [I.res]
  split
  · rename_i o1 b h1
    intro g1
    have hx:=hx.peel g1
    rw [h1] at hx
    have hr:=hx.read
    refine ⟨.bool (bif n then b else !b),fun w' _ _ _ => ?_,vsim_bool _⟩
    have he : ∀ (y : Value) (r : Bool),((y = .nilIface ∧ r = true) ∨ ∃ ty z,y = .iface ty z ∧ r = false) → ∀ w',(Op.equal t y .nilIface).run P w' = .ok r w':=fun y r hy w' => by
      have h : ∀ d : Nat,(Op.equalIn (d + 1) t y .nilIface).run P w' = .ok r w':=fun d => by
        rcases hy with ⟨rfl,rfl⟩|⟨ty,z,rfl,rfl⟩ <;> simp only [Op.equalIn,Sem.run_bind,run_underlying ht,Result.andThen_ok,Sem.run_pure]
      simp only [Op.equal,Op.maxDepth]
      exact h 9999
    have hv : (a.eval x = .nilIface ∧ b = false) ∨ ∃ ty z,a.eval x = .iface ty z ∧ b = true:=by
      generalize a.eval x = y at hr
      generalize hd : D.ifc b = d at hr
      cases hr with
      | ifc0 => injection hd with hd;exact .inl ⟨rfl,hd⟩
      | ifc1 ty z => injection hd with hd;exact .inr ⟨ty,z,rfl,hd⟩
      | int => cases hd
      | bool => cases hd
      | str => cases hd
      | sl => cases hd
    subst hop
    rcases hv with ⟨hv,rfl⟩|⟨ty,z,hv,rfl⟩
    · have e:=he .nilIface true (.inl ⟨rfl,rfl⟩)
      cases n <;> simp [execOp,ho,hv,hc,eqGuard,binOp,e]
    · have e:=he (.iface ty z) false (.inr ⟨ty,z,rfl,rfl⟩)
      cases n <;> simp [execOp,ho,hv,hc,eqGuard,binOp,e]
  · trivial
theorem ok_binI (S : Sim c σ β a w) {op : BinOp} {t u : TypeId} {x y : Operand} (ho : o.op = .binOp op t x y u) : ResOk P c o σ β a w ((binI P op t x y).res σ):=by
  unfold binI
  split
  · rename_i ht;exact ok_beq S false rfl ht ho
  · rename_i ht;exact ok_beq S true rfl ht ho
  · rename_i ht
    split
    · exact ok_inl S false rfl ⟨_,ht⟩ ho
    · trivial
  · rename_i ht
    split
    · exact ok_inl S true rfl ⟨_,ht⟩ ho
    · trivial
  · exact ok_bin S ho
theorem evs_sim (S : Sim c σ β a w) : ∀ xs : List Operand,VSimL w (okOf c w σ.h β) c.lo β (evs σ (xs.map toX)) (xs.map a.eval)
  | [] => by simp [evs,VSimL]
  | x :: xs => by simp only [List.map_cons,evs,VSimL];exact ⟨S.ev x,evs_sim S xs⟩
theorem peels_sim {ok : Nat → Prop} {lo : Nat} : ∀ {xs : List A} {vs : List Value},guards xs → VSimL w ok lo β xs vs → VSimL w ok lo β (peels xs) vs
  | [],[],_,_ => by simp [peels,VSimL]
  | x :: xs,v :: vs,hg,h => by
    simp only [VSimL] at h
    simp only [peels,VSimL]
    have h1 : peelG x = true ∧ guards xs:=by cases x <;> simp_all [guards,peelG]
    exact ⟨h.1.peel h1.1,peels_sim h1.2 h.2⟩
  | [],_ :: _,_,h => by simp [VSimL] at h
  | _ :: _,[],_,h => by simp [VSimL] at h
theorem evs_length (σ : St) : ∀ xs : List X,(evs σ xs).length = xs.length
  | [] => rfl
  | x :: xs => by simp [evs,evs_length σ xs]
theorem peels_length : ∀ xs : List A,(peels xs).length = xs.length
  | [] => rfl
  | x :: xs => by simp [peels,peels_length xs]
theorem ok_call (S : Sim c σ β a w) {cl : Call} {f : Operand} (ho : o.op = .call cl) (hc : cl.callee = .value f) : ResOk P c o σ β a w ((I.call (toX f) (cl.args.toList.map toX)).res σ):=by
  have Sb:=S.frzs (A.idsL (evs σ (cl.args.toList.map toX)))
  have S1:=Sb.frzs (tids (peels (evs (σ.frzs (A.idsL (evs σ (cl.args.toList.map toX)))) (cl.args.toList.map toX))))
  simp only [I.res]
  split
  · rename_i g cap hp
    rintro ⟨hg,hgb,hg1⟩
    have hf:=(S1.ev f).peel hg1
    rw [hp] at hf
    obtain ⟨vs,hv,hs⟩:=hf
    refine ⟨rfl,cl.args.toList.map a.eval ++ vs,fun σ2 S2 => by rw [List.take_left' (by simp)];exact evs_sim S2 _,fun w' _ => ?_,Sb,?_,S1,(peels_sim hg (evs_sim S1 _)).app hs,fun i q hq => ?_⟩
    · simp [execOp,ho,hc,resolve,hv,Deferred.ofValue,invoke]
      congr 2
      apply Array.ext'
      simp
    · rw [List.take_left' (by rw [peels_length,evs_length];simp)]
      exact peels_sim hgb (evs_sim Sb _)
    · rcases hq with hq|hq
      · exact frzs_blk hq
      · obtain ⟨q1,g1,g2⟩:=frzs_blk hq
        obtain ⟨q0,g3,g4⟩:=frzs_blk g1
        exact ⟨q0,g3,fun u b hb => g4 u b (g2 u b hb)⟩
  · trivial
theorem ok_mkf (S : Sim c σ β a w) {f : FuncId} {cap : Array Operand} (ho : o.op = .makeFunc (.func f) #[] cap) : ResOk P c o σ β a w ((I.mkf f (cap.toList.map toX)).res σ):=by
  have S1:=S.frzs (A.idsL (evs σ (cap.toList.map toX)))
  intro hg
  refine .inl ⟨.func (.func f) #[] (cap.map a.eval),w,by simp [execOp,ho,Instr.makeFunc],β,S1,?_,by simp [Nw,ho]⟩
  simp only [VSim]
  refine ⟨cap.toList.map a.eval,by simp [← Array.toList_map],peels_sim hg (evs_sim S1 _)⟩
theorem rowOf_src (S : Sim c σ β a w) {x : A} {v : Value} {ys : List (List D)} (hr : rowOf σ x = some ys) (hx : VSim w (okOf c w σ.h β) c.lo β x v) {e : Nat} (he : ∀ l,l ∈ ys → l.length = e) :
    ∃ ad cc,v = .slice ad ys.length cc ∧ (0 < ys.length → ∃ b o' us,ad = some ⟨b,o',none⟩ ∧ us.length = ys.length * e ∧ (∀ i u,us[i]? = some u → w.cell? ⟨b,o' + i,none⟩ = some u) ∧ RepL w (okOf c w σ.h β) us ys.flatten):=by
  unfold rowOf at hr
  split at hr
  · simp only [Option.some.injEq] at hr
    subst hr
    obtain ⟨ad,cc,hv,_,_,h⟩:=hx.read.cells
    refine ⟨ad,cc,hv,fun hp => ?_⟩
    obtain ⟨b,o',us,h1,_,h3,h4⟩:=h e he hp
    exact ⟨b,o',us,h1,by rw [RepL.length h4,flat_len he],h3,h4⟩
  · simp only [Option.some.injEq] at hr
    subst hr
    simp only [VSim] at hx
    exact ⟨none,0,hx,fun hp => by simp at hp⟩
  · rename_i i
    split at hr
    · rename_i own ety e' xs hobj
      simp only [Option.some.injEq] at hr
      subst hr
      simp only [VSim] at hx
      obtain ⟨inner,hown,hu,hm,hrep,_⟩:=row_of S hobj hx
      rcases hown.2 with ⟨hv,h⟩|⟨g,cap,cur,hv,_,hh,hn,_,hs,ht⟩
      · exact ⟨none,0,by rw [hv,h],fun hp => by omega⟩
      · refine ⟨_,cap,hv,fun hp => ⟨g,0,inner,rfl,by rw [RepL.length hrep,flat_len he],fun k u hk => ?_,hrep⟩⟩
        rw [← ht,List.getElem?_take] at hk
        split at hk
        · rw [zero_add,World.cell?,hh]
          simpa using hk
        · cases hk
    · cases hr
  · cases hr
theorem rowOf_len (S : Sim c σ β a w) {x : A} {v : Value} {ys : List (List D)} (hr : rowOf σ x = some ys) (hx : VSim w (okOf c w σ.h β) c.lo β x v) : ys.length ≤ 140737488355328:=by
  unfold rowOf at hr
  split at hr
  · simp only [Option.some.injEq] at hr
    subst hr
    exact hx.read.cells.choose_spec.choose_spec.2.2.1
  · simp only [Option.some.injEq] at hr
    subst hr
    simp
  · split at hr
    · rename_i own ety e' xs hobj
      simp only [Option.some.injEq] at hr
      subst hr
      simp only [VSim] at hx
      exact (row_of S hobj hx).choose_spec.2.2.1
    · cases hr
  · cases hr
theorem run_append_zero (t ty e : TypeId) (i : TypeInfo) (ht : P.underlying t = some (.slice e)) (hi : P.info? e = some i) (base : Nat) (size : Nat)
    (v : Value) (n : Nat) (xs : List Value) (hown : w.ownsRow base e size v n xs) (ad : Option Addr) (cc : Nat) :
    (Builtin.append_ #[t,t] ty #[v,.slice ad 0 cc]).run P w = .ok v w:=by
  rcases hown.2 with ⟨rfl,rfl⟩|⟨g,cap,cur,rfl,_,_,hnc,_⟩
  · cases ad <;> simp [Builtin.append_,run_underlying ht,sizeOf,typeInfo,hi,Builtin.lenOf,Builtin.firstCells,loadCells,loadCellsFrom]
  · cases ad <;> simp [Builtin.append_,run_underlying ht,sizeOf,typeInfo,hi,Builtin.lenOf,Builtin.firstCells,hnc,storeCells,loadCells,loadCellsFrom]
theorem run_app (t ty e : TypeId) (i : TypeInfo) (z : Value) (ht : P.underlying t = some (.slice e)) (hi : P.info? e = some i) (hz : i.zero = some z) (hzs : z.cells.size = i.size) (hsz : 0 < i.size)
    (v : Value) (n : Nat) (xs : List Value) (hown : w.ownsRow 0 e i.size v n xs) (ad : Option Addr) (m cc : Nat) (us : List Value) (hl : us.length = m * i.size)
    (hsrc : 0 < m → ∃ b o',ad = some ⟨b,o',none⟩ ∧ (∀ k u,us[k]? = some u → w.cell? ⟨b,o' + k,none⟩ = some u) ∧ ∀ u ∈ us,u.oneCell' = true)
    (hb : (n + m) * i.bytes ≤ 140737488355328) (hm : n + m ≤ 140737488355328) :
    ∃ v' w',(Builtin.append_ #[t,t] ty #[v,.slice ad m cc]).run P w = .ok v' w' ∧ w'.ownsRow 0 e i.size v' (n + m) (xs ++ us) ∧ w.grownBy w' v.ownBlock ∧ (v'.ownBlock = v.ownBlock ∨ v'.ownBlock = some w.heap.size):=by
  rcases Nat.eq_zero_or_pos m with h0|h0
  · subst h0
    have : us = []:=List.eq_nil_of_length_eq_zero (by simpa using hl)
    subst this
    exact ⟨v,w,run_append_zero t ty e i ht hi 0 i.size v n xs hown ad cc,by simpa using hown,⟨rfl,rfl,rfl,Nat.le_refl _,fun _ _ _ => rfl⟩,.inl rfl⟩
  · obtain ⟨b,o',rfl,hc,h1⟩:=hsrc h0
    obtain ⟨v',w',h2,h3,h4,_,h5⟩:=run_append_own_at (P:=P) w 0 t ty e i z i.size i.bytes ht hi hz rfl rfl hzs hsz v n xs hown ⟨b,o',none⟩ m cc us hl (fun k u hu => by rw [addr_add];exact hc k u hu) h1
      (by simp only [maxLen];omega) hb (Nat.zero_le _)
    exact ⟨v',w',h2,h3,h4,h5⟩
theorem Sim.appended (S : Sim c σ β a w) {i : Nat} {own own' : Bool} {ety e : Nat} {xs ys : List (List D)} (hi : σ.h[i]? = some (.row own ety e xs)) {v v' : Value} (hv : β[i]? = some v) (hg : w.grownBy w' v.ownBlock) {inner us : List Value}
    (hown : w'.ownsRow 0 ety e v' (xs.length + ys.length) (inner ++ us)) (hat : v'.ownBlock = v.ownBlock ∨ v'.ownBlock = some w.heap.size) (hu : ∀ l,l ∈ xs → l.length = e) (hy : ∀ l,l ∈ ys → l.length = e)
    (hm : xs.length + ys.length ≤ 140737488355328) (h1 : RepL w (okOf c w σ.h β) inner xs.flatten) (h2 : RepL w (okOf c w σ.h β) us ys.flatten)
    (ho : own' = true → (∀ b,v.ownBlock = some b → c.lo ≤ b) ∧ ∃ F G,OwnL w inner xs.flatten F ∧ OwnL w us ys.flatten G ∧ (F ++ G).Nodup ∧ ∀ b,b ∈ F ++ G → okOf c w σ.h β b ∧ c.lo ≤ b) :
    Sim c ⟨killT i σ.t,killH i 0 (.row own' ety e (xs ++ ys)) σ.h⟩ (β.set i v') a w':=by
  have hv1 : v'.oneCell' = true:=by rcases hown.2 with ⟨h,_⟩|⟨g,cap,cur,h,_⟩ <;> rw [h] <;> rfl
  refine S.turn hi hv hv1 ⟨hg.os,hg.tape,hg.output,hg.size,fun b hb hne => hg.block b hb (fun e => hne (blk_row.2 e.symm))⟩ (fun b hb => ?_) (fun hok => ?_)
  · rcases hat with h|h
    · exact .inl (blk_row.2 (h.symm.trans (blk_row.1 hb)))
    · have hb' : v'.ownBlock = some b:=blk_row.1 hb
      rw [h] at hb'
      injection hb' with hb'
      refine .inr ⟨by omega,?_⟩
      rcases hown.2 with ⟨h',_⟩|⟨g,cap,cur,h',_,hh,_⟩
      · rw [h'] at h;cases h
      · rw [h'] at h
        simp only [Value.ownBlock,Option.some.injEq] at h
        have:=(Array.getElem?_eq_some_iff.1 hh).1
        omega
  · refine ⟨inner ++ us,by rw [List.length_append];exact hown,fun l hl => ?_,by rw [List.length_append];exact hm,?_,fun ho' => ?_⟩
    · rcases List.mem_append.1 hl with h|h
      · exact hu l h
      · exact hy l h
    · rw [List.flatten_append]
      exact (h1.move hok).app (h2.move hok)
    · obtain ⟨k0,F,G,k1,k2,k3,k4⟩:=ho ho'
      refine ⟨fun b hb => ?_,F ++ G,?_,k3,fun b hb => ⟨(hok b (k4 b hb).1).1,(k4 b hb).2⟩⟩
      · rcases hat with h|h
        · exact k0 b (h.symm.trans hb)
        · rw [h] at hb
          injection hb with hb
          have:=S.fr.size
          have:=c.hlo
          omega
      · rw [List.flatten_append]
        exact (k1.app k2).move (fun b hb => (hok b (k4 b hb).1).2)
theorem nw_app {T : Nat → Prop} {h h' : List O} {i : Nat} {own : Bool} {ety e : Nat} {xs : List (List D)} {v v' : Value} (hi : h[i]? = some (.row own ety e xs)) (hv : β[i]? = some v) (hg : w.grownBy w' v.ownBlock) (hat : v'.ownBlock = v.ownBlock ∨ v'.ownBlock = some w.heap.size) (hT : T i)
    (hb : ∀ q',h'[i]? = some q' → ∀ b,b ∈ blkOf q' v' → v'.ownBlock = some b) (ho : ∀ j q',j ≠ i → h'[j]? = some q' → ∃ q,h[j]? = some q ∧ ∀ u b,b ∈ blkOf q' u → b ∈ blkOf q u) : NwG T h β w h' (β.set i v') w':=by
  refine NwG.one ⟨hg.os,hg.tape,hg.output,hg.size,fun b hb' hne => hg.block b hb' (fun e => hne ⟨i,_,v,hT,hi,hv,blk_row.2 e.symm⟩)⟩ (fun q' b hq hb' => ?_) ho
  have:=hb q' hq b hb'
  rcases hat with h|h
  · exact .inr ⟨_,v,hi,hv,blk_row.2 (h ▸ this)⟩
  · rw [h] at this
    injection this with this
    exact .inl (by omega)
theorem ok_app (S : Sim c σ β a w) {x y : Operand} {t e : TypeId} {i : TypeInfo} {z : Value} {cl : Call} (ho : o.op = .call cl) (hc1 : cl.callee = .builtin .append) (hc2 : cl.args = #[x,y]) (hc3 : cl.argTypes = #[t,t])
    (ht : P.underlying t = some (.slice e)) (hi : P.info? e = some i) (hz : i.zero = some z) (hzs : z.cells.size = i.size) (hsz : 0 < i.size) :
    ResOk P c o σ β a w ((I.app e i.size i.bytes (toX x) (toX y)).res σ):=by
  have hx:=S.ev x
  have hy:=S.ev y
  have hrun : ∀ v' w',(Builtin.append_ #[t,t] o.type #[a.eval x,a.eval y]).run P w = .ok v' w' → (execOp a.eval o).run P w = .ok (.value v') w':=by
    intro v' w' h
    simp [execOp,ho,hc1,hc2,hc3,resolve,invoke,builtin,h]
  simp only [I.res]
  split
  · rename_i ys hys
    split
    · rename_i k hk
      split
      · rename_i own ety' e' xs hobj
        rintro ⟨rfl,rfl,hl,hb,hm⟩
        rw [hk] at hx
        simp only [VSim] at hx
        obtain ⟨inner,hown,hu,hm',hrep,hOwn⟩:=row_of S hobj hx
        obtain ⟨ad,cc,hv,hsrc⟩:=rowOf_src S hys hy hl
        have : ∃ us : List Value,us.length = ys.length * i.size ∧ RepL w (okOf c w σ.h β) us ys.flatten ∧ (0 < ys.length → ∃ b o',ad = some ⟨b,o',none⟩ ∧ (∀ k u,us[k]? = some u → w.cell? ⟨b,o' + k,none⟩ = some u) ∧ ∀ u ∈ us,u.oneCell' = true):=by
          rcases Nat.eq_zero_or_pos ys.length with h0|h0
          · have:=List.eq_nil_of_length_eq_zero h0
            subst this
            exact ⟨[],by simp,trivial,fun h => by simp at h⟩
          · obtain ⟨b,o',us,h1,h2,h3,h4⟩:=hsrc h0
            exact ⟨us,h2,h4,fun _ => ⟨b,o',h1,h3,RepL.one h4⟩⟩
        obtain ⟨us,hul,hur,hsrc⟩:=this
        obtain ⟨v',w',hr,hown',hg,hat⟩:=run_app (P:=P) t o.type ety' i z ht hi hz hzs hsz (a.eval x) xs.length inner hown ad ys.length cc us hul hsrc hb hm
        refine .inl ⟨v',w',hrun v' w' (by rw [hv];exact hr),β.set k v',S.appended hobj hx hg hown' hat hu hl hm hrep hur (fun ho => by
            simp only [Bool.and_eq_true] at ho
            obtain ⟨k0,F,k1,k2,k3⟩:=hOwn ho.1
            exact ⟨k0,F,[],k1,nilO_own hur ho.2,by simpa using k2,fun b hb => k3 b (by simpa using hb)⟩),?_,by
            unfold Nw;rw [ho];dsimp only
            exact nw_app hobj hx hg hat (by unfold tchO;rw [ho];simp only [hc2,hk,Nat.beq_refl]) (fun q' hq' b hb' => by
              rw [get_killH,hobj,zero_add,Nat.beq_refl] at hq'
              simp only [Option.map_some,cond_true,Option.some.injEq] at hq'
              subst hq'
              exact blk_row.1 hb') (fun j q' hj hq' => kill_blk hj hq')⟩
        simp only [VSim]
        rw [List.getElem?_set_self (List.getElem?_eq_some_iff.1 hx).1]
      · trivial
    · rename_i hk
      rintro ⟨hl,hb,hm⟩
      rw [hk] at hx
      simp only [VSim] at hx
      obtain ⟨ad,cc,hv,hsrc⟩:=rowOf_src S hys hy hl
      have : ∃ us : List Value,us.length = ys.length * i.size ∧ RepL w (okOf c w σ.h β) us ys.flatten ∧ (0 < ys.length → ∃ b o',ad = some ⟨b,o',none⟩ ∧ (∀ k u,us[k]? = some u → w.cell? ⟨b,o' + k,none⟩ = some u) ∧ ∀ u ∈ us,u.oneCell' = true):=by
        rcases Nat.eq_zero_or_pos ys.length with h0|h0
        · have:=List.eq_nil_of_length_eq_zero h0
          subst this
          exact ⟨[],by simp,trivial,fun h => by simp at h⟩
        · obtain ⟨b,o',us,h1,h2,h3,h4⟩:=hsrc h0
          exact ⟨us,h2,h4,fun _ => ⟨b,o',h1,h3,RepL.one h4⟩⟩
      obtain ⟨us,hul,hur,hsrc⟩:=this
      have hown0 : w.ownsRow 0 e i.size (.slice none 0 0) 0 []:=⟨by simp,.inl ⟨rfl,rfl⟩⟩
      obtain ⟨v',w',hr,hown',hg,hat⟩:=run_app (P:=P) t o.type e i z ht hi hz hzs hsz (.slice none 0 0) 0 [] hown0 ad ys.length cc us hul hsrc (by simpa using hb) (by simpa using hm)
      simp only [zero_add,List.nil_append] at hown'
      have hfr : Fr (fun _ => False) w w':=⟨hg.os,hg.tape,hg.output,hg.size,fun b hb _ => hg.block b hb (by simp [Value.ownBlock])⟩
      have hv1 : v'.oneCell' = true:=by rcases hown'.2 with ⟨h,_⟩|⟨g,cap,cur,h,_⟩ <;> rw [h] <;> rfl
      refine .inl ⟨v',w',hrun v' w' (by rw [hx,hv];exact hr),β ++ [v'],S.new hfr hv1 (fun b hb' => ?_) (fun hok => ⟨us,hown',hl,hm,hur.move (fun b hb => ⟨hok b hb,hfr.block b hb.1 (fun h => h)⟩),fun ho => ⟨fun b hb' => ?_,[],nilO_own (hur.move (w':=w') (ok':=fun b => b < w.heap.size) (fun b hb => ⟨hb.1,hfr.block b hb.1 (fun h => h)⟩)) ho,List.nodup_nil,fun b hb => by cases hb⟩⟩),?_,by
        unfold Nw;rw [ho];dsimp only
        exact NwG.new S.len hfr (fun b hb' => by
          have hb':=blk_row.1 hb'
          rcases hat with h|h
          · rw [h] at hb';cases hb'
          · rw [h] at hb'
            injection hb' with hb'
            omega)⟩
      · have hb'' : v'.ownBlock = some b:=blk_row.1 hb'
        rcases hat with h|h
        · rw [h] at hb'';cases hb''
        · rw [h] at hb''
          injection hb'' with hb''
          refine ⟨by omega,?_⟩
          rcases hown'.2 with ⟨h',_⟩|⟨g,cap,cur,h',_,hh,_⟩
          · rw [h'] at h;cases h
          · rw [h'] at h
            simp only [Value.ownBlock,Option.some.injEq] at h
            have:=(Array.getElem?_eq_some_iff.1 hh).1
            omega
      · have:=S.fr.size
        have:=c.hlo
        rcases hat with h|h
        · rw [h] at hb';cases hb'
        · rw [h] at hb'
          injection hb' with hb'
          omega
      · simp only [VSim]
        rw [← S.len];simp
    · trivial
  · split
    · rename_i k hk
      split
      · rename_i ys i1 hobjk hi1
        split
        · rename_i ety' e' xs hobj
          rintro ⟨rfl,rfl,hl,hb,hm⟩
          rw [hi1] at hx
          rw [hk] at hy
          simp only [VSim] at hx hy
          obtain ⟨⟨F,t2⟩,_⟩:=hy
          obtain ⟨u',F',he',t3,t4,t5⟩:=tree_of S hobjk t2
          obtain ⟨rfl,rfl⟩:=tv_inj he'
          have hik : i1 ≠ k:=by rintro rfl;rw [hobj] at hobjk;cases hobjk
          have hblk : ∀ b,b ∈ F → b ∈ blkOf (.tree ys) (tv (a.eval y) F):=fun b hb => by simpa [blkOf,tvF_tv] using hb
          have S1:=S.kill hobjk
          have hok1 : ∀ b,b ∈ F → okOf c w (killH k 0 .dead σ.h) β b:=fun b hb => S.kill_ok hobjk t2 (hblk b hb)
          obtain ⟨inner,hown,hu,hm',hrep,hOwn⟩:=row_of S1 (get_kill_row hobj hik _) hx
          obtain ⟨inner0,o1,_,_,_,o5⟩:=row_of S hobj hx
          obtain ⟨p1,F0,p2,p3,p4⟩:=o5 rfl
          obtain ⟨q1,F1,q2,q3,q4⟩:=hOwn rfl
          have hin : inner = inner0:=by
            rcases o1.2 with ⟨h,h0⟩|⟨g1,c1,cur1,h,_,hh1,_,_,_,ht1⟩
            · have e1 : inner = []:=List.eq_nil_of_length_eq_zero (by rw [hown.1,h0,Nat.zero_mul])
              have e2 : inner0 = []:=List.eq_nil_of_length_eq_zero (by rw [o1.1,h0,Nat.zero_mul])
              rw [e1,e2]
            rcases hown.2 with ⟨h',_⟩|⟨g2,c2,cur2,h',_,hh2,_,_,_,ht2⟩
            · rw [h] at h';cases h'
            rw [h] at h'
            injection h' with h1' h2' h3'
            injection h1' with h1'
            injection h1' with h1'
            subst h1'
            rw [hh1] at hh2
            simp only [Option.some.injEq,Obj.cells.injEq,and_true] at hh2
            rw [← ht1,← ht2,hh2]
          subst hin
          have:=p2.det q2
          subst this
          have hdis : ∀ b,b ∈ F1 → b ∉ F:=fun b hb hbF => (p4 b hb).1.2.2 k _ _ hobjk t2 (hblk b hbF)
          have hsrc : ∃ ad cc us G,a.eval y = .slice ad ys.length cc ∧ us.length = ys.length * i.size ∧ OwnL w us ys.flatten G ∧ (∀ b,b ∈ G → b ∈ F) ∧ G.Nodup ∧ (0 < ys.length → ∃ b o',ad = some ⟨b,o',none⟩ ∧ (∀ k u,us[k]? = some u → w.cell? ⟨b,o' + k,none⟩ = some u)):=by
            generalize hev : a.eval y = vy at t3
            generalize hds : [D.sl ys] = dss at t3
            cases t3 with
            | none a0 c0 vs ds F h =>
              simp only [List.cons.injEq,D.sl.injEq] at hds
              obtain ⟨rfl,rfl⟩:=hds
              exact ⟨a0,c0,[],[],rfl,by simp,.nil,by simp,List.nodup_nil,fun h => by simp at h⟩
            | int => simp at hds
            | bool => simp at hds
            | str => simp at hds
            | sl b cc cells ety e2 xs2 vs ds G1 G2 k0 k1 k2 k3 k4 k5 k6 k7 k8 =>
              simp only [List.cons.injEq,D.sl.injEq] at hds
              obtain ⟨rfl,rfl⟩:=hds
              have hee : ys.length * e2 = ys.length * i.size:=by
                cases ys with
                | nil => simp
                | cons x xs => rw [← k2 x (List.mem_cons_self ..),← hl x (List.mem_cons_self ..)]
              refine ⟨_,cc,cells.toList.take (ys.length * e2),G1,rfl,?_,k7,fun b hb => by simp [hb],?_,fun _ => ⟨b,0,rfl,fun k u hu => ?_⟩⟩
              · rw [List.length_take,show cells.toList.length = cc * e2 from (Array.length_toList (xs:=cells)).trans k5,← hee]
                exact Nat.min_eq_left (Nat.mul_le_mul_right _ k3)
              · have:=t4
                simp only [List.nodup_cons,List.nodup_append] at this
                exact this.2.1
              · rw [List.getElem?_take] at hu
                split at hu
                · rw [zero_add,World.cell?,k1]
                  simpa using hu
                · cases hu
          obtain ⟨ad,cc,us,G,hv,hul,g1,g2,g2',g3⟩:=hsrc
          have hur : RepL w (okOf c w (killH k 0 .dead σ.h) β) us ys.flatten:=g1.rep (fun b hb => hok1 b (g2 b hb))
          obtain ⟨v',w',hr,hown',hg,hat⟩:=run_app (P:=P) t o.type ety' i z ht hi hz hzs hsz (a.eval x) xs.length inner hown ad ys.length cc us hul (fun h => by
            obtain ⟨b,o',h1,h2⟩:=g3 h
            exact ⟨b,o',h1,h2,RepL.one hur⟩) hb hm
          refine .inl ⟨v',w',hrun v' w' (by rw [hv];exact hr),β.set i1 v',Sim.appended (own:=true) (own':=true) S1 (get_kill_row hobj hik _) hx hg hown' hat hu hl hm hrep hur (fun _ => ⟨q1,F1,G,q2,g1,?_,?_⟩),?_,by
            unfold Nw;rw [ho];dsimp only
            exact nw_app hobj hx hg hat (by unfold tchO;rw [ho];simp only [hc2,hi1,Nat.beq_refl]) (fun q' hq' b hb' => by
              rw [get_killH,get_kill_row hobj hik,zero_add,Nat.beq_refl] at hq'
              simp only [Option.map_some,cond_true,Option.some.injEq] at hq'
              subst hq'
              exact blk_row.1 hb') (fun j q' hj hq' => by
                obtain ⟨q1,g1,g2⟩:=kill_blk hj hq'
                obtain ⟨q0,g3,g4⟩:=kill_blk' g1
                exact ⟨q0,g3,fun u b hb => g4 u b (g2 u b hb)⟩)⟩
          · rw [List.nodup_append]
            exact ⟨q3,g2',fun x hx y hy e => by subst e;exact hdis x hx (g2 x hy)⟩
          · intro b hb
            rcases List.mem_append.1 hb with h|h
            · exact q4 b h
            · exact ⟨hok1 b (g2 b h),t5 b (g2 b h)⟩
          · simp only [VSim]
            rw [List.getElem?_set_self (List.getElem?_eq_some_iff.1 hx).1]
        · trivial
      · trivial
    · trivial
end
end Go.Proofs.YtlddcimpdkcgeaaGreatDoor.Sym
