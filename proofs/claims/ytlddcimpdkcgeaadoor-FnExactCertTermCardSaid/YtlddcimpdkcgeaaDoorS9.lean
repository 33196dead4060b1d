/- Instructions: slices of what is there; every instruction. -/
import Derived.Test.YtlddcimpdkcgeaaDoorS8
set_option linter.unusedVariables false
set_option linter.unusedSimpArgs false
namespace Go.Proofs.YtlddcimpdkcgeaaDoor.Sym
open Go.RowKit

section
variable {P : Program} {c : Cx} {σ : St} {β : List Value} {a : Act} {w w' : World} {o : Oper}

theorem run_bound {k : IntKind} {n : Int} {y : Nat} (code : BoundsCode) (h0 : 0 ≤ n) (h1 : n ≤ y) : (Instr.sliceBound (.int k n) y code).run P w = .ok n.toNat w:=by
  simp [Instr.sliceBound,asIntOf,h0,h1]

/-- The bounds of a slice expression. -/
theorem run_bounds (b : Bool) (len cap : Nat) (hlc : len ≤ cap) (lo hi : Option Value) (l h : Int) (hlo : (lo = none ∧ l = 0) ∨ (∃ k,lo = some (.int k l))) (hhi : (hi = none ∧ h = len) ∨ (∃ k,hi = some (.int k h)))
    (h0 : 0 ≤ l) (h1 : l ≤ h) (h2 : h ≤ len) : (Instr.sliceBounds b len cap lo hi none).run P w = .ok (l.toNat,h.toNat,cap) w:=by
  have e1 : ∀ k,(Instr.sliceBound (.int k h) cap (if b then .sliceAcap else .sliceAlen)).run P w = .ok h.toNat w:=fun k => run_bound _ (by omega) (by omega)
  have e2 : ∀ k,(Instr.sliceBound (.int k l) h.toNat .sliceB).run P w = .ok l.toNat w:=fun k => run_bound _ h0 (by omega)
  rcases hlo with ⟨rfl,rfl⟩|⟨k,rfl⟩ <;> rcases hhi with ⟨rfl,rfl⟩|⟨k',rfl⟩
  · simp [Instr.sliceBounds]
  · simp only [Instr.sliceBounds,Sem.run_bind,Sem.run_pure,Result.andThen_ok,e1]
    simp
  · have:=e2 k
    simp only [Int.toNat_natCast] at this
    simp [Instr.sliceBounds,this]
  · simp only [Instr.sliceBounds,Sem.run_bind,Sem.run_pure,Result.andThen_ok,e1]
    simp [e2]

theorem slc_lo (S : Sim c σ β a w) {lo : Option Operand} {o1 : Bool} {k : IntKind} {l : Int} (hl : (match lo.map toX with|none => A.d true (.int .i64 0)|some x => peel (x.ev σ)) = .d o1 (.int k l)) (hg : peelG ((((lo.map toX).map (X.ev σ))).getD .any) = true) :
    (lo.map a.eval = none ∧ l = 0) ∨ (∃ k,lo.map a.eval = some (.int k l)):=by
  cases lo with
  | none =>
    simp only [Option.map_none,A.d.injEq,D.int.injEq] at hl
    exact .inl ⟨rfl,hl.2.2.symm⟩
  | some x =>
    simp only [Option.map_some] at hl hg ⊢
    have h:=(S.ev x).peel hg
    rw [hl] at h
    exact .inr ⟨k,by rw [(vint h).1]⟩

theorem slc_hi (S : Sim c σ β a w) {hi : Option Operand} {o1 : Bool} {k : IntKind} {h : Int} {n : Nat} (hl : (match hi.map toX with|none => A.d true (.int .i64 n)|some x => peel (x.ev σ)) = .d o1 (.int k h)) (hg : peelG ((((hi.map toX).map (X.ev σ))).getD .any) = true) :
    (hi.map a.eval = none ∧ h = n) ∨ (∃ k,hi.map a.eval = some (.int k h)):=by
  cases hi with
  | none =>
    simp only [Option.map_none,A.d.injEq,D.int.injEq] at hl
    exact .inl ⟨rfl,hl.2.2.symm⟩
  | some x =>
    simp only [Option.map_some] at hl hg ⊢
    have h':=(S.ev x).peel hg
    rw [hl] at h'
    exact .inr ⟨k,by rw [(vint h').1]⟩

theorem guards3 {x y z : A} (h : guards [x,y,z]) : peelG x = true ∧ peelG y = true ∧ peelG z = true:=by
  cases x <;> cases y <;> cases z <;> simp_all [guards,peelG]

theorem ok_sls (S : Sim c σ β a w) {t : TypeId} {x : Operand} {lo hi : Option Operand} (ho : o.op = .slice t x lo hi none) (ht : P.underlying t = some .string) :
    ResOk P c o σ β a w ((I.sls (toX x) (lo.map toX) (hi.map toX)).res σ):=by
  have hx:=S.ev x
  simp only [I.res]
  split
  · rename_i o1 s o2 k l hp hl
    split
    · rename_i o3 k3 h hh
      rintro ⟨hg,h0,h1,h2⟩
      have hg:=guards3 hg
      have hx:=hx.peel hg.1
      rw [hp] at hx
      have hlo:=slc_lo S hl hg.2.1
      have hhi:=slc_hi S hh hg.2.2
      refine ⟨.string (s.extract l.toNat h.toNat),fun w' _ _ _ => ?_,vsim_str _ ?_⟩
      · have hb:=run_bounds (P:=P) (w:=w') false s.size s.size (Nat.le_refl _) (lo.map a.eval) (hi.map a.eval) l h hlo hhi h0 h1 (by omega)
        simp [execOp,ho,(vstr hx).1,Instr.sliceAt,run_underlying ht,Instr.slice,hb]
      · have:=(vstr hx).2
        have h3 : (s.extract l.toNat h.toNat).size = min h.toNat s.size - l.toNat:=by simp
        omega
    · trivial
  · trivial

/-- A part of what is read. -/
theorem Rep.part {ok : Nat → Prop} {xs : List (List D)} {ad : Option Addr} {cc e l h : Nat} (hr : Rep w ok (.slice ad xs.length cc) (.sl xs)) (he : ∀ ds,ds ∈ xs → ds.length = e) (hl : l ≤ h) (hh : h ≤ xs.length) :
    Rep w ok (.slice (if cc = l then ad else ad.map (·.add (l * e))) (h - l) (cc - l)) (.sl ((xs.take h).drop l)):=by
  have hlen : ((xs.take h).drop l).length = h - l:=by rw [List.length_drop,List.length_take];omega
  obtain ⟨a',c',hv,hc,hm,hcells⟩:=hr.cells
  injection hv with h1 h2 h3
  subst h1;subst h3
  rcases Nat.eq_zero_or_pos (h - l) with h0|h0
  · have : (xs.take h).drop l = []:=List.eq_nil_of_length_eq_zero (by omega)
    rw [this,h0]
    exact Rep.nil _ _ _ _
  · obtain ⟨b,o',us,rfl,hb,hcell,hrep⟩:=hcells e he (by omega)
    rw [if_neg (by omega),← hlen]
    simp only [Option.map_some,addr_add]
    have hall : ∀ ds,ds ∈ (xs.take h).drop l → ds.length = e:=fun ds hd => he ds (List.mem_of_mem_take (List.mem_of_mem_drop hd))
    have hflat : ((xs.take h).drop l).flatten = (xs.flatten.take (h * e)).drop (l * e):=by
      have htake : ∀ (n : Nat) (ys : List (List D)),(∀ ds,ds ∈ ys → ds.length = e) → (ys.take n).flatten = ys.flatten.take (n * e):=by
        intro n
        induction n with
        | zero => intro ys _;simp
        | succ n ih =>
          intro ys hy
          cases ys with
          | nil => simp
          | cons y ys =>
            have hye:=hy y (List.mem_cons_self ..)
            rw [List.take_succ_cons,List.flatten_cons,List.flatten_cons,ih ys (fun ds hd => hy ds (List.mem_cons_of_mem _ hd)),show (n + 1) * e = y.length + n * e by rw [hye,Nat.succ_mul];omega,List.take_length_add_append]
      have hdrop : ∀ (n : Nat) (ys : List (List D)),(∀ ds,ds ∈ ys → ds.length = e) → (ys.drop n).flatten = ys.flatten.drop (n * e):=by
        intro n
        induction n with
        | zero => intro ys _;simp
        | succ n ih =>
          intro ys hy
          cases ys with
          | nil => simp
          | cons y ys =>
            have hye:=hy y (List.mem_cons_self ..)
            rw [List.drop_succ_cons,List.flatten_cons,ih ys (fun ds hd => hy ds (List.mem_cons_of_mem _ hd)),show (n + 1) * e = y.length + n * e by rw [hye,Nat.succ_mul];omega,List.drop_length_add_append]
      rw [hdrop l _ (fun ds hd => he ds (List.mem_of_mem_take hd)),htake h xs he]
    refine Rep.of_cells (us:=(us.take (h * e)).drop (l * e)) (by omega) (by omega) hall hb (fun i u hu => ?_) (by rw [hflat];exact (hrep.take _).drop _)
    rw [List.getElem?_drop,List.getElem?_take] at hu
    split at hu
    · rw [Nat.add_assoc];exact hcell _ u hu
    · cases hu

theorem ok_slc (S : Sim c σ β a w) {t e : TypeId} {x : Operand} {lo hi : Option Operand} (ho : o.op = .slice t x lo hi none) (ht : P.underlying t = some (.slice e)) (hi' : (P.info? e).isSome = true) :
    ResOk P c o σ β a w ((I.slc (P.cellsOf e) (toX x) (lo.map toX) (hi.map toX)).res σ):=by
  obtain ⟨ti,hti⟩:=Option.isSome_iff_exists.1 hi'
  have hx:=S.ev x
  simp only [I.res]
  split
  · rename_i o1 xs o2 k l hp hl
    split
    · rename_i o3 k3 h hh
      rintro ⟨hg,h0,h1,h2,he⟩
      have hg:=guards3 hg
      have hx:=hx.peel hg.1
      rw [hp] at hx
      have hlo:=slc_lo S hl hg.2.1
      have hhi:=slc_hi S hh hg.2.2
      have hr:=hx.read
      obtain ⟨ad,cc,hv,hc,hm,_⟩:=hr.cells
      rw [hv] at hr
      have hpart:=hr.part he (l:=l.toNat) (h:=h.toNat) (by omega) (by omega)
      refine ⟨_,fun w' _ _ _ => ?_,by simp only [VSim];exact hpart⟩
      have hb:=run_bounds (P:=P) (w:=w') true xs.length cc hc (lo.map a.eval) (hi.map a.eval) l h hlo hhi h0 h1 (by omega)
      simp [execOp,ho,hv,Instr.sliceAt,run_underlying ht,Instr.slice,hb,sizeOf,typeInfo,hti,cellsOf_eq hti]
    · trivial
  · trivial

theorem bytes_fold : ∀ (ns : List Int) (s : ByteArray),(ns.foldl (fun r n => r.push (UInt8.ofNat n.toNat)) s) = ⟨(s.data.toList ++ ns.map (fun n => UInt8.ofNat n.toNat)).toArray⟩
  | [],s => by simp
  | n :: ns,s => by
    rw [List.foldl_cons,bytes_fold ns]
    simp [ByteArray.push]

theorem areBytes_ns : ∀ {xs : List (List D)},areBytes xs → ∃ ns : List Int,xs = ns.map (fun n => [D.int .u8 n])
  | [],_ => ⟨[],rfl⟩
  | [.int .u8 n] :: r,h => by
    obtain ⟨ns,hns⟩:=areBytes_ns (xs:=r) h
    exact ⟨n :: ns,by simp [hns]⟩

theorem flat_one : ∀ ns : List Int,(ns.map (fun n => [D.int .u8 n])).flatten = ns.map (fun n => D.int .u8 n)
  | [] => rfl
  | n :: ns => by simp [flat_one ns]

theorem ints_of {ok : Nat → Prop} : ∀ {ns : List Int} {us : List Value},RepL w ok us (ns.map (fun n => D.int .u8 n)) → us = ns.map (Value.int .u8)
  | [],[],_ => rfl
  | [],_ :: _,h => h.elim
  | _ :: _,[],h => h.elim
  | n :: ns,u :: us,h => by
    have h1:=h.1
    have h2 : u = .int .u8 n:=by cases h1;rfl
    rw [h2,ints_of (ns:=ns) h.2,List.map_cons]

theorem ok_bstr (S : Sim c σ β a w) {s d e : TypeId} {x : Operand} (ho : o.op = .convert s d x) (hs : P.underlying s = some (.slice e)) (he : P.underlying e = some (.int .u8)) (hd : P.underlying d = some .string) : ResOk P c o σ β a w ((I.bstr (toX x)).res σ):=by
  have hx:=S.ev x
  simp only [I.res]
  split
  · rename_i xs hxs
    intro hb
    obtain ⟨ns,rfl⟩:=areBytes_ns hb
    have hall : ∀ l,l ∈ ns.map (fun n => [D.int .u8 n]) → l.length = 1:=by
      intro l hl
      obtain ⟨n,_,rfl⟩:=List.mem_map.1 hl
      rfl
    have hby : bytesD (ns.map (fun n => [D.int .u8 n])) = ns.map (fun n => UInt8.ofNat n.toNat):=by simp [bytesD]
    have hflat : (ns.map (fun n => [D.int .u8 n])).flatten = ns.map (fun n => D.int .u8 n):=by
      exact flat_one ns
    obtain ⟨ad,cc,hv,hsrc⟩:=rowOf_src S hxs hx hall
    have hlen : (ns.map (fun n => [D.int .u8 n])).length ≤ 140737488355328:=by
      exact rowOf_len S hxs hx
    refine ⟨.string ⟨(bytesD (ns.map (fun n => [D.int .u8 n]))).toArray⟩,fun w' B hw hA => ?_,vsim_str _ ?_⟩
    · have hnB : ∀ b,¬ B b:=fun b hb => by obtain ⟨_,_,_,_,_,_,h4⟩:=hA b hb;unfold rdO at h4;rw [ho] at h4;cases h4
      have h1:=run_convert_bytes_string (P:=P) w' s d e ad (ns.map (fun n => [D.int .u8 n])).length cc hs he hd
      have h2 : (Conv.bytesToString (.slice ad (ns.map (fun n => [D.int .u8 n])).length cc)).run P w' = .ok (.string ⟨(bytesD (ns.map (fun n => [D.int .u8 n]))).toArray⟩) w':=by
        rcases Nat.eq_zero_or_pos ns.length with h0|h0
        · have:=List.eq_nil_of_length_eq_zero h0
          subst this
          cases ad with
          | none => simp [Conv.bytesToString,bytesD];rfl
          | some ad => simp [Conv.bytesToString,bytesD,loadCells,loadCellsFrom];rfl
        · obtain ⟨b,o',us,rfl,hl,hc,hr⟩:=hsrc (by simpa using h0)
          have hus : us = ns.map (Value.int .u8):=by
            rw [hflat] at hr
            exact ints_of hr
          subst hus
          have:=run_bytesToString (P:=P) w' ⟨b,o',none⟩ ns.length cc ns (by
            have:=run_loadCells_list (P:=P) w' ⟨b,o',none⟩ (ns.map (Value.int .u8)) (fun j v hv => by
              rw [addr_add]
              have h1:=hc j v hv
              exact (cell_same (hw.block b (World.block_lt_of_cell? w ⟨b,o' + j,none⟩ h1) (hnB b))).trans h1)
            simpa using this)
          rw [bytes_fold] at this
          rw [List.length_map,this,hby]
          rfl
      have h3 : (execOp a.eval o).run P w' = (do let v ← convert s d (a.eval x);pure (Next.value v) : Sem Next).run P w':=by simp only [execOp,ho]
      rw [h3,Sem.run_bind,hv,h1,h2]
      rfl
    · rw [hby]
      show (ns.map (fun n => UInt8.ofNat n.toNat)).toArray.size ≤ _
      simp at hlen ⊢
      omega
  · trivial

theorem one_list {α : Type} {l : Array α} {x : α} (h : l.toList = [x]) : l = #[x]:=by cases l;simp_all
theorem two_list {α : Type} {l : Array α} {x y : α} (h : l.toList = [x,y]) : l = #[x,y]:=by cases l;simp_all

theorem rowI_ok {t : TypeId} {k : TypeId → TypeInfo → Value → I} (h : ∀ e i z,P.underlying t = some (.slice e) → P.info? e = some i → i.zero = some z → z.cells.size = i.size → 0 < i.size → ResOk P c o σ β a w ((k e i z).res σ)) :
    ResOk P c o σ β a w ((rowI P t k).res σ):=by
  unfold rowI
  split
  · rename_i e hu
    split
    · rename_i i hi
      split
      · rename_i z hz
        split
        · rename_i hh;exact h e i z hu hi hz hh.1 hh.2
        · trivial
      · trivial
    · trivial
  · trivial

theorem ok_asg (S : Sim c σ β a w) {x : Operand} (ho : o.op = .assign x) : ResOk P c o σ β a w ((asgI P o.type x).res σ):=by
  unfold asgI
  split
  · split
    · exact ok_own S ho
    · exact ok_mv (P:=P) (σ:=σ) S (x:=.const (.slice none 0 0)) (.inr ho)
  · exact ok_mv S (.inr ho)

theorem ok_callI (S : Sim c σ β a w) {cl : Call} (ho : o.op = .call cl) : ResOk P c o σ β a w ((callI P cl).res σ):=by
  unfold callI
  split
  · rename_i hc
    unfold lenI
    split
    · rename_i x t h1 h2
      split
      · rename_i e hu;exact ok_len S ho hc (one_list h1) (one_list h2) hu
      · rename_i hu;exact ok_slen S ho hc (one_list h1) (one_list h2) hu
      · trivial
    · trivial
  · rename_i hc
    unfold appI
    split
    · rename_i s x t u h1 h2
      split
      · rename_i htu
        subst htu
        exact rowI_ok (fun e i z hu hi hz h3 h4 => ok_app S ho hc (two_list h1) (two_list h2) hu hi hz h3 h4)
      · trivial
    · trivial
  · rename_i f hc;exact ok_call S ho hc
  · trivial

/-- Every instruction. -/
theorem res_ok (S : Sim c σ β a w) (o : Oper) : ResOk P c o σ β a w ((toI P o).res σ):=by
  unfold toI
  cases ho : o.op with
  | assign x => exact ok_asg S ho
  | move x => exact ok_mv S (.inl ho)
  | pick x y z => exact ok_pick S ho
  | box t x => exact ok_box S ho
  | alloc t =>
    simp only
    split
    · rename_i z hz
      unfold allocI
      split
      · rename_i e n he
        refine ok_allocR S ho hz ?_
        unfold allocE at he
        split at he
        · assumption
        · cases he
      · exact ok_alloc S ho hz
    · trivial
  | load t p =>
    simp only
    unfold ldI
    split
    · rename_i fs hu;exact ok_ldn S ho hu
    · trivial
    · rename_i d h1 h2 hu
      refine ok_ld1 S ho hu ?_
      cases d <;> first|rfl|exact absurd rfl (h1 _)|exact absurd rfl (h2 _ _)
    · trivial
  | store t p v =>
    simp only
    split
    · rename_i hi;exact ok_st S ho hi
    · trivial
  | fieldAddr t x f =>
    simp only
    unfold faI
    split
    · rename_i fs hu
      split
      · rename_i fd hf
        split
        · trivial
        · rename_i hn;exact ok_fa S ho hu hf hn
      · trivial
    · trivial
  | indexAddr t x i =>
    simp only
    unfold iaI
    split
    · rename_i e hu
      split
      · rename_i hi;exact ok_ia S ho hu hi
      · trivial
    · trivial
  | index t x i =>
    simp only
    unfold ixI
    split
    · rename_i hu;exact ok_ix S ho hu
    · trivial
  | binOp op t x y u => exact ok_binI S ho
  | unOp op t x =>
    simp only
    split
    · exact ok_not S ho
    · trivial
  | convert s d x =>
    simp only
    unfold cvI
    split
    · rename_i k' k hs hd;exact ok_cvi S ho hs hd
    · rename_i e hs hd
      split
      · rename_i he;exact ok_bstr S ho hs he hd
      · trivial
    · trivial
  | call cl => exact ok_callI S ho
  | nilCheck x => exact ok_ck S ho
  | makeSlice t l c' => exact rowI_ok (fun e i z hu hi hz h3 h4 => ok_mks S ho hu hi hz h3 h4)
  | buildSlice t n parts =>
    refine rowI_ok (fun e i z hu hi hz h3 h4 => ?_)
    unfold bsI
    split
    · rename_i hh
      split
      · rename_i l hl;exact ok_bs S ho hu hi hz h3 h4 hh.1 hh.2 hl
      · trivial
    · trivial
  | build t parts =>
    simp only
    unfold bldI
    split
    · rename_i fs hu
      split
      · rename_i z l hz hl
        split
        · rename_i hh;exact ok_bld S ho hu hz hh hl
        · trivial
      · trivial
    · trivial
  | slice t x lo hi mx =>
    simp only
    split
    · unfold slI
      split
      · rename_i hu;exact ok_sls S ho hu
      · rename_i e hu
        split
        · rename_i hi;exact ok_slc S ho hu hi
        · trivial
      · trivial
    · trivial
  | makeFunc fn first cap =>
    simp only
    unfold mkfI
    split
    · rename_i f cap' hf
      have : first = #[]:=by cases first;simp_all
      subst this
      exact ok_mkf S ho
    · trivial
  | extract x i => exact ok_ext S ho
  | _ => trivial

end
end Go.Proofs.YtlddcimpdkcgeaaDoor.Sym
