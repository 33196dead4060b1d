/- FnMaking's region of drawn orders: whatever order is drawn, the four terms lie in four boxes. -/
import Derived.Test.YtlddcimpdkcgeaaX2
import Derived.Test.YtlddcimpdkcgeaaF10
set_option linter.unusedVariables false
set_option linter.unusedSimpArgs false
set_option maxRecDepth 20000
set_option maxHeartbeats 4000000
namespace Go.Proofs.Ytlddcimpdkcgeaa
open Go Go.RowKit Sym
@[reducible] def bxT (t : Term) : O:=.box [.d false (.int .i64 t.op),.d false (.int .i64 t.n),.d false (.str t.s),.d false (.sl (encs t.kids))]
@[reducible] def bxZ : O:=.box [.d true (.int .i64 0),.d true (.int .i64 0),.d true (.str ⟨#[]⟩),.nil]
theorem lkp_ne {d k : Nat} {v : A} {t : List (Nat × A)} (h : d ≠ k) : lkp ((d,v) :: t) k = lkp t k:=by simp only [lkp];rw [beq_no h];rfl
theorem lkp_eq {d : Nat} {v : A} {t : List (Nat × A)} : lkp ((d,v) :: t) d = v:=by simp only [lkp];rw [Nat.beq_refl];rfl
/-- The old values and objects stand; j calls are done; the boxes S are made. -/
structure MI (σ0 : St) (n0 : Nat) (x y z u : Term) (S : List Nat) (j : Nat) (σ : St) : Prop where
  t : ∀ k,k ∈ [3,4,5,6,7,25,26,28,30,32] → lkp σ.t k = lkp σ0.t k
  h : ∀ i,i < n0 → σ.h[i]? = σ0.h[i]?
  len : n0 ≤ σ.h.length
  c1 : 1 ≤ j → lkp σ.t 27 = x.v
  c2 : 2 ≤ j → lkp σ.t 29 = y.v
  c3 : 3 ≤ j → lkp σ.t 31 = z.v
  c4 : 4 ≤ j → lkp σ.t 33 = u.v
  p : ∃ f : Nat → Nat,∀ d,d ∈ S → lkp σ.t d = .ptr (f d) 0 ∧ n0 ≤ f d ∧ f d < σ.h.length ∧ σ.h[f d]? = some bxZ ∧ ∀ d',d' ∈ S → f d = f d' → d = d'
/-- At the end. -/
structure MF (σ0 : St) (n0 : Nat) (x y z u : Term) (σ : St) : Prop where
  t : ∀ k,k ∈ [3,4,5,6,7] → lkp σ.t k = lkp σ0.t k
  h : ∀ i,i < n0 → σ.h[i]? = σ0.h[i]?
  p : ∃ p8 p9 p10 p11 : Nat,lkp σ.t 8 = .ptr p8 0 ∧ lkp σ.t 9 = .ptr p9 0 ∧ lkp σ.t 10 = .ptr p10 0 ∧ lkp σ.t 11 = .ptr p11 0 ∧ σ.h[p8]? = some (bxT x) ∧ σ.h[p9]? = some (bxT y) ∧ σ.h[p10]? = some (bxT z) ∧ σ.h[p11]? = some (bxT u)
theorem MI.alloc {σ0 σ : St} {n0 j d : Nat} {x y z u : Term} {S S' : List Nat} (H : MI σ0 n0 x y z u S j σ) (hd : 8 ≤ d ∧ d ≤ 11) (hn : d ∉ S) (hS : ∀ k,k ∈ S' → k = d ∨ k ∈ S) :
    MI σ0 n0 x y z u S' j ⟨(d,.ptr σ.h.length 0) :: σ.t,σ.h ++ [bxZ]⟩:=by
  refine ⟨fun k hk => ?_,fun i hi => ?_,?_,fun h => ?_,fun h => ?_,fun h => ?_,fun h => ?_,?_⟩
  · rw [lkp_ne (by simp only [List.mem_cons,List.not_mem_nil,or_false] at hk;omega)]
    exact H.t k hk
  · have:=H.len
    show (σ.h ++ [bxZ])[i]? = _
    rw [List.getElem?_append_left (by omega)]
    exact H.h i hi
  · have:=H.len
    simp
    omega
  · rw [lkp_ne (by omega)];exact H.c1 h
  · rw [lkp_ne (by omega)];exact H.c2 h
  · rw [lkp_ne (by omega)];exact H.c3 h
  · rw [lkp_ne (by omega)];exact H.c4 h
  · obtain ⟨f,hf⟩:=H.p
    refine ⟨fun k => if k = d then σ.h.length else f k,fun k hk => ?_⟩
    have hl : (σ.h ++ [bxZ]).length = σ.h.length + 1:=by simp
    by_cases hkd : k = d
    · subst hkd
      simp only [if_pos]
      refine ⟨lkp_eq,H.len,by rw [hl];omega,by simp,fun d' hd' he => ?_⟩
      by_cases h' : d' = k
      · exact h'.symm
      · rw [if_neg h'] at he
        rcases hS d' hd' with h|h
        · exact h.symm
        · have:=(hf d' h).2.2.1
          omega
    · rcases hS k hk with h|h
      · exact absurd h hkd
      · obtain ⟨g1,g2,g3,g4,g5⟩:=hf k h
        simp only [if_neg hkd]
        refine ⟨?_,g2,by rw [hl];omega,?_,fun d' hd' he => ?_⟩
        · rw [lkp_ne (fun e => hkd e.symm)];exact g1
        · show (σ.h ++ [bxZ])[f k]? = _
          rw [List.getElem?_append_left g3];exact g4
        · by_cases h' : d' = d
          · rw [if_pos h'] at he;omega
          · rw [if_neg h'] at he
            rcases hS d' hd' with h2|h2
            · exact absurd h2 h'
            · exact g5 d' h2 he
theorem MI.call {σ0 σ : St} {n0 j d : Nat} {x y z u r : Term} {S : List Nat} (H : MI σ0 n0 x y z u S j σ) (hd : (d = 27 ∧ j = 0 ∧ r = x) ∨ (d = 29 ∧ j = 1 ∧ r = y) ∨ (d = 31 ∧ j = 2 ∧ r = z) ∨ (d = 33 ∧ j = 3 ∧ r = u)) (hS : ∀ k,k ∈ S → 8 ≤ k ∧ k ≤ 11) :
    MI σ0 n0 x y z u S (j + 1) ⟨(d,r.v) :: σ.t,σ.h⟩:=by
  refine ⟨fun k hk => ?_,H.h,H.len,fun h => ?_,fun h => ?_,fun h => ?_,fun h => ?_,?_⟩
  · rw [lkp_ne (by simp only [List.mem_cons,List.not_mem_nil,or_false] at hk;omega)]
    exact H.t k hk
  · rcases hd with ⟨rfl,rfl,rfl⟩|⟨rfl,rfl,rfl⟩|⟨rfl,rfl,rfl⟩|⟨rfl,rfl,rfl⟩
    · exact lkp_eq
    all_goals rw [lkp_ne (by omega)];exact H.c1 (by omega)
  · rcases hd with ⟨rfl,rfl,rfl⟩|⟨rfl,rfl,rfl⟩|⟨rfl,rfl,rfl⟩|⟨rfl,rfl,rfl⟩
    · omega
    · exact lkp_eq
    all_goals rw [lkp_ne (by omega)];exact H.c2 (by omega)
  · rcases hd with ⟨rfl,rfl,rfl⟩|⟨rfl,rfl,rfl⟩|⟨rfl,rfl,rfl⟩|⟨rfl,rfl,rfl⟩
    · omega
    · omega
    · exact lkp_eq
    · rw [lkp_ne (by omega)];exact H.c3 (by omega)
  · rcases hd with ⟨rfl,rfl,rfl⟩|⟨rfl,rfl,rfl⟩|⟨rfl,rfl,rfl⟩|⟨rfl,rfl,rfl⟩
    · omega
    · omega
    · omega
    · exact lkp_eq
  · obtain ⟨f,hf⟩:=H.p
    refine ⟨f,fun k hk => ?_⟩
    have:=hS k hk
    obtain ⟨g1,g2⟩:=hf k hk
    exact ⟨by rw [lkp_ne (by omega)];exact g1,g2⟩
/-- What is known at the region's beginning, and what is asked of its end. -/
structure MC (K : St → Prop) (σ0 : St) (n0 : Nat) (a b p q x y z u : Term) (m : Int) : Prop where
  k1 : Ct Try.prog 11 [a.v,b.v] x.v
  k2 : Ct Try.prog 12 [.d false (.int .i64 m)] y.v
  k3 : Ct Try.prog 13 [p.v] z.v
  k4 : Ct Try.prog 14 [q.v] u.v
  b25 : lkp σ0.t 25 = a.v
  b26 : lkp σ0.t 26 = b.v
  b28 : lkp σ0.t 28 = .d false (.int .i64 m)
  b30 : lkp σ0.t 30 = p.v
  b32 : lkp σ0.t 32 = q.v
  fin : ∀ σ,MF σ0 n0 x y z u σ → K σ
section
variable {K : St → Prop} {σ0 : St} {n0 : Nat} {a b p q x y z u : Term} {m : Int} {ws : List Nat} {r : Tr} {l : Trs}
theorem tc_alloc {S : List Nat} (S' : List Nat) {j : Nat} {σ : St} (d : Nat) (H : MI σ0 n0 x y z u S j σ) (hd : 8 ≤ d ∧ d ≤ 11) (hn : d ∉ S) (hS : ∀ k,k ∈ S' → k = d ∨ k ∈ S) (hr : ∀ σ',MI σ0 n0 x y z u S' j σ' → awpT Try.prog K r n0 ws σ') (hl : awpTs Try.prog K l n0 ws σ) :
    awpTs Try.prog K (.cons ⟨some d,none,.alloc [.d true (.int .i64 0),.d true (.int .i64 0),.d true (.str ⟨#[]⟩),.nil]⟩ r l) n0 ws σ :=
  s_cons (fun K' hK' => ⟨trivial,trivial,hK' _ (hr _ (H.alloc hd hn hS))⟩) hl
theorem tc_call1 {S : List Nat} {σ : St} (c : MC K σ0 n0 a b p q x y z u m) (H : MI σ0 n0 x y z u S 0 σ) (hS : ∀ k,k ∈ S → 8 ≤ k ∧ k ≤ 11) (hr : ∀ σ',MI σ0 n0 x y z u S 1 σ' → awpT Try.prog K r n0 ws σ') (hl : awpTs Try.prog K l n0 ws σ) :
    awpTs Try.prog K (.cons ⟨some 27,none,.call (.c (.fn 11 [])) [.t 25,.t 26]⟩ r l) n0 ws σ:=by
  refine s_cons (fun K' hK' => ?_) hl
  have e1:=(H.t 25 (by simp)).trans c.b25
  have e2:=(H.t 26 (by simp)).trans c.b26
  have hk:=c.k1
  have hf:=hK' _ (hr _ (H.call (.inl ⟨rfl,rfl,rfl⟩) hS))
  simp only [Term.v_eq] at e1 e2 hk hf
  simp only [go_sem,Int.reduceToNat,Int.reduceEq,Nat.reduceAdd,Nat.reduceBEq,Nat.reduceLeDiff,Nat.reduceLT,Int.reduceLT,Int.reduceLE,Int.reduceNeg,reduceCtorEq,e1,e2]
  first|refine s_call hk ?_|skip
  simp only [go_sem,Int.reduceToNat,Int.reduceEq,Nat.reduceAdd,Nat.reduceBEq,Nat.reduceLeDiff,Nat.reduceLT,Int.reduceLT,Int.reduceLE,Int.reduceNeg,reduceCtorEq]
  exact hf
theorem tc_call2 {S : List Nat} {σ : St} (c : MC K σ0 n0 a b p q x y z u m) (H : MI σ0 n0 x y z u S 1 σ) (hS : ∀ k,k ∈ S → 8 ≤ k ∧ k ≤ 11) (hr : ∀ σ',MI σ0 n0 x y z u S 2 σ' → awpT Try.prog K r n0 ws σ') (hl : awpTs Try.prog K l n0 ws σ) :
    awpTs Try.prog K (.cons ⟨some 29,none,.call (.c (.fn 12 [])) [.t 28]⟩ r l) n0 ws σ:=by
  refine s_cons (fun K' hK' => ?_) hl
  have e1:=(H.t 28 (by simp)).trans c.b28
  have hk:=c.k2
  have hf:=hK' _ (hr _ (H.call (.inr (.inl ⟨rfl,rfl,rfl⟩)) hS))
  simp only [Term.v_eq] at e1 hk hf
  simp only [go_sem,Int.reduceToNat,Int.reduceEq,Nat.reduceAdd,Nat.reduceBEq,Nat.reduceLeDiff,Nat.reduceLT,Int.reduceLT,Int.reduceLE,Int.reduceNeg,reduceCtorEq,e1]
  first|refine s_call hk ?_|skip
  simp only [go_sem,Int.reduceToNat,Int.reduceEq,Nat.reduceAdd,Nat.reduceBEq,Nat.reduceLeDiff,Nat.reduceLT,Int.reduceLT,Int.reduceLE,Int.reduceNeg,reduceCtorEq]
  exact hf
theorem tc_call3 {S : List Nat} {σ : St} (c : MC K σ0 n0 a b p q x y z u m) (H : MI σ0 n0 x y z u S 2 σ) (hS : ∀ k,k ∈ S → 8 ≤ k ∧ k ≤ 11) (hr : ∀ σ',MI σ0 n0 x y z u S 3 σ' → awpT Try.prog K r n0 ws σ') (hl : awpTs Try.prog K l n0 ws σ) :
    awpTs Try.prog K (.cons ⟨some 31,none,.call (.c (.fn 13 [])) [.t 30]⟩ r l) n0 ws σ:=by
  refine s_cons (fun K' hK' => ?_) hl
  have e1:=(H.t 30 (by simp)).trans c.b30
  have hk:=c.k3
  have hf:=hK' _ (hr _ (H.call (.inr (.inr (.inl ⟨rfl,rfl,rfl⟩))) hS))
  simp only [Term.v_eq] at e1 hk hf
  simp only [go_sem,Int.reduceToNat,Int.reduceEq,Nat.reduceAdd,Nat.reduceBEq,Nat.reduceLeDiff,Nat.reduceLT,Int.reduceLT,Int.reduceLE,Int.reduceNeg,reduceCtorEq,e1]
  first|refine s_call hk ?_|skip
  simp only [go_sem,Int.reduceToNat,Int.reduceEq,Nat.reduceAdd,Nat.reduceBEq,Nat.reduceLeDiff,Nat.reduceLT,Int.reduceLT,Int.reduceLE,Int.reduceNeg,reduceCtorEq]
  exact hf
theorem tc_call4 {S : List Nat} {σ : St} (c : MC K σ0 n0 a b p q x y z u m) (H : MI σ0 n0 x y z u S 3 σ) (hS : ∀ k,k ∈ S → 8 ≤ k ∧ k ≤ 11) (hr : ∀ σ',MI σ0 n0 x y z u S 4 σ' → awpT Try.prog K r n0 ws σ') (hl : awpTs Try.prog K l n0 ws σ) :
    awpTs Try.prog K (.cons ⟨some 33,none,.call (.c (.fn 14 [])) [.t 32]⟩ r l) n0 ws σ:=by
  refine s_cons (fun K' hK' => ?_) hl
  have e1:=(H.t 32 (by simp)).trans c.b32
  have hk:=c.k4
  have hf:=hK' _ (hr _ (H.call (.inr (.inr (.inr ⟨rfl,rfl,rfl⟩))) hS))
  simp only [Term.v_eq] at e1 hk hf
  simp only [go_sem,Int.reduceToNat,Int.reduceEq,Nat.reduceAdd,Nat.reduceBEq,Nat.reduceLeDiff,Nat.reduceLT,Int.reduceLT,Int.reduceLE,Int.reduceNeg,reduceCtorEq,e1]
  first|refine s_call hk ?_|skip
  simp only [go_sem,Int.reduceToNat,Int.reduceEq,Nat.reduceAdd,Nat.reduceBEq,Nat.reduceLeDiff,Nat.reduceLT,Int.reduceLT,Int.reduceLE,Int.reduceNeg,reduceCtorEq]
  exact hf
/-- A store into one of the boxes. -/
theorem tc_store {σ : St} {dp dv i : Nat} {v : Term} (hp : lkp σ.t dp = .ptr i 0) (hi : n0 ≤ i) (hb : σ.h[i]? = some bxZ) (hv : lkp σ.t dv = v.v) (hr : awpT Try.prog K r n0 ws ⟨σ.t,σ.h.set i (bxT v)⟩) :
    awpT Try.prog K (.br (.cons ⟨none,none,.st 4 (.t dp) (.t dv)⟩ r .nil)) n0 ws σ:=by
  refine s_br (s_cons (fun K' hK' => ?_) s_tnil)
  have hf:=hK' _ hr
  simp only [Term.v_eq] at hv hf
  have hbl : Nat.ble n0 i = true:=Nat.ble_eq_true_of_le hi
  simp only [gopT,keeps,X.ev,hp,hbl,Bool.true_or,true_and,I.res,hb,hv,List.all_cons,List.all_nil,one,Bool.and_true,Bool.and_self,cond_true,Res.go,setL,List.length_cons,List.length_nil,St.putO]
  first|exact hf|(refine ⟨?_,?_⟩ <;> first|exact hf|simp)|(simp;exact hf)
theorem N4 (c : MC K σ0 n0 a b p q x y z u m) : ∀ σ,MI σ0 n0 x y z u [8,9,10,11] 4 σ → awpT Try.prog K nd4 n0 ws σ:=fun σ H => by
  obtain ⟨f,hf⟩:=H.p
  obtain ⟨p1,p2,p3,p4,p5⟩:=hf 8 (by simp)
  obtain ⟨q1,q2,q3,q4,q5⟩:=hf 9 (by simp)
  obtain ⟨r1,r2,r3,r4,r5⟩:=hf 10 (by simp)
  obtain ⟨s1,s2,s3,s4,s5⟩:=hf 11 (by simp)
  have n1 : f 8 ≠ f 9:=fun e => absurd (p5 9 (by simp) e) (by decide)
  have n2 : f 8 ≠ f 10:=fun e => absurd (p5 10 (by simp) e) (by decide)
  have n3 : f 8 ≠ f 11:=fun e => absurd (p5 11 (by simp) e) (by decide)
  have n4 : f 9 ≠ f 10:=fun e => absurd (q5 10 (by simp) e) (by decide)
  have n5 : f 9 ≠ f 11:=fun e => absurd (q5 11 (by simp) e) (by decide)
  have n6 : f 10 ≠ f 11:=fun e => absurd (r5 11 (by simp) e) (by decide)
  have e1:=H.c1 (by decide)
  have e2:=H.c2 (by decide)
  have e3:=H.c3 (by decide)
  have e4:=H.c4 (by decide)
  have ht:=H.t
  have hh:=H.h
  have hfin:=c.fin
  clear c H hf p5 q5 r5 s5
  generalize f 8 = i8 at *
  generalize f 9 = i9 at *
  generalize f 10 = i10 at *
  generalize f 11 = i11 at *
  rw [nd4_eq]
  refine tc_store p1 p2 p4 e1 ?_
  rw [nd3_eq]
  refine tc_store (σ:=⟨σ.t,_⟩) q1 q2 (by show (σ.h.set i8 (bxT x))[i9]? = _;rw [List.getElem?_set_ne n1];exact q4) e2 ?_
  rw [nd2_eq]
  refine tc_store (σ:=⟨σ.t,_⟩) r1 r2 (by show ((σ.h.set i8 (bxT x)).set i9 (bxT y))[i10]? = _;rw [List.getElem?_set_ne n4,List.getElem?_set_ne n2];exact r4) e3 ?_
  rw [nd1_eq]
  refine tc_store (σ:=⟨σ.t,_⟩) s1 s2 (by show (((σ.h.set i8 (bxT x)).set i9 (bxT y)).set i10 (bxT z))[i11]? = _;rw [List.getElem?_set_ne n6,List.getElem?_set_ne n5,List.getElem?_set_ne n3];exact s4) e4 ?_
  rw [nd0_eq]
  refine s_done (hfin _ ⟨fun k hk => ht k ?_,fun i hi => ?_,i8,i9,i10,i11,p1,q1,r1,s1,?_,?_,?_,?_⟩)
  · simp only [List.mem_cons,List.not_mem_nil,or_false] at hk ⊢
    omega
  · show ((((σ.h.set i8 (bxT x)).set i9 (bxT y)).set i10 (bxT z)).set i11 (bxT u))[i]? = _
    rw [List.getElem?_set_ne (by omega),List.getElem?_set_ne (by omega),List.getElem?_set_ne (by omega),List.getElem?_set_ne (by omega)]
    exact hh i hi
  · show ((((σ.h.set i8 (bxT x)).set i9 (bxT y)).set i10 (bxT z)).set i11 (bxT u))[i8]? = _
    rw [List.getElem?_set_ne n3.symm,List.getElem?_set_ne n2.symm,List.getElem?_set_ne n1.symm,List.getElem?_set_self p3]
  · show ((((σ.h.set i8 (bxT x)).set i9 (bxT y)).set i10 (bxT z)).set i11 (bxT u))[i9]? = _
    rw [List.getElem?_set_ne n5.symm,List.getElem?_set_ne n4.symm,List.getElem?_set_self (by simpa using q3)]
  · show ((((σ.h.set i8 (bxT x)).set i9 (bxT y)).set i10 (bxT z)).set i11 (bxT u))[i10]? = _
    rw [List.getElem?_set_ne n6.symm,List.getElem?_set_self (by simpa using r3)]
  · show ((((σ.h.set i8 (bxT x)).set i9 (bxT y)).set i10 (bxT z)).set i11 (bxT u))[i11]? = _
    rw [List.getElem?_set_self (by simpa using s3)]
theorem N5 (c : MC K σ0 n0 a b p q x y z u m) : ∀ σ,MI σ0 n0 x y z u [8,9,10] 4 σ → awpT Try.prog K nd5 n0 ws σ:=fun σ H => by
  rw [nd5_eq]
  exact s_br (tc_alloc [8,9,10,11] 11 H (by decide) (by decide) (by decide) (fun σ' H' => N4 c σ' H') (s_tnil))
theorem N6 (c : MC K σ0 n0 a b p q x y z u m) : ∀ σ,MI σ0 n0 x y z u [8,9,11] 4 σ → awpT Try.prog K nd6 n0 ws σ:=fun σ H => by
  rw [nd6_eq]
  exact s_br (tc_alloc [8,9,10,11] 10 H (by decide) (by decide) (by decide) (fun σ' H' => N4 c σ' H') (s_tnil))
theorem N7 (c : MC K σ0 n0 a b p q x y z u m) : ∀ σ,MI σ0 n0 x y z u [8,9] 4 σ → awpT Try.prog K nd7 n0 ws σ:=fun σ H => by
  rw [nd7_eq]
  exact s_br (tc_alloc [8,9,10] 10 H (by decide) (by decide) (by decide) (fun σ' H' => N5 c σ' H') (tc_alloc [8,9,11] 11 H (by decide) (by decide) (by decide) (fun σ' H' => N6 c σ' H') (s_tnil)))
theorem N8 (c : MC K σ0 n0 a b p q x y z u m) : ∀ σ,MI σ0 n0 x y z u [8,10,11] 4 σ → awpT Try.prog K nd8 n0 ws σ:=fun σ H => by
  rw [nd8_eq]
  exact s_br (tc_alloc [8,9,10,11] 9 H (by decide) (by decide) (by decide) (fun σ' H' => N4 c σ' H') (s_tnil))
theorem N9 (c : MC K σ0 n0 a b p q x y z u m) : ∀ σ,MI σ0 n0 x y z u [8,10] 4 σ → awpT Try.prog K nd9 n0 ws σ:=fun σ H => by
  rw [nd9_eq]
  exact s_br (tc_alloc [8,9,10] 9 H (by decide) (by decide) (by decide) (fun σ' H' => N5 c σ' H') (tc_alloc [8,10,11] 11 H (by decide) (by decide) (by decide) (fun σ' H' => N8 c σ' H') (s_tnil)))
theorem N10 (c : MC K σ0 n0 a b p q x y z u m) : ∀ σ,MI σ0 n0 x y z u [8,11] 4 σ → awpT Try.prog K nd10 n0 ws σ:=fun σ H => by
  rw [nd10_eq]
  exact s_br (tc_alloc [8,9,11] 9 H (by decide) (by decide) (by decide) (fun σ' H' => N6 c σ' H') (tc_alloc [8,10,11] 10 H (by decide) (by decide) (by decide) (fun σ' H' => N8 c σ' H') (s_tnil)))
theorem N11 (c : MC K σ0 n0 a b p q x y z u m) : ∀ σ,MI σ0 n0 x y z u [8] 4 σ → awpT Try.prog K nd11 n0 ws σ:=fun σ H => by
  rw [nd11_eq]
  exact s_br (tc_alloc [8,9] 9 H (by decide) (by decide) (by decide) (fun σ' H' => N7 c σ' H') (tc_alloc [8,10] 10 H (by decide) (by decide) (by decide) (fun σ' H' => N9 c σ' H') (tc_alloc [8,11] 11 H (by decide) (by decide) (by decide) (fun σ' H' => N10 c σ' H') (s_tnil))))
theorem N12 (c : MC K σ0 n0 a b p q x y z u m) : ∀ σ,MI σ0 n0 x y z u [9,10,11] 4 σ → awpT Try.prog K nd12 n0 ws σ:=fun σ H => by
  rw [nd12_eq]
  exact s_br (tc_alloc [8,9,10,11] 8 H (by decide) (by decide) (by decide) (fun σ' H' => N4 c σ' H') (s_tnil))
theorem N13 (c : MC K σ0 n0 a b p q x y z u m) : ∀ σ,MI σ0 n0 x y z u [9,10] 4 σ → awpT Try.prog K nd13 n0 ws σ:=fun σ H => by
  rw [nd13_eq]
  exact s_br (tc_alloc [8,9,10] 8 H (by decide) (by decide) (by decide) (fun σ' H' => N5 c σ' H') (tc_alloc [9,10,11] 11 H (by decide) (by decide) (by decide) (fun σ' H' => N12 c σ' H') (s_tnil)))
theorem N14 (c : MC K σ0 n0 a b p q x y z u m) : ∀ σ,MI σ0 n0 x y z u [9,11] 4 σ → awpT Try.prog K nd14 n0 ws σ:=fun σ H => by
  rw [nd14_eq]
  exact s_br (tc_alloc [8,9,11] 8 H (by decide) (by decide) (by decide) (fun σ' H' => N6 c σ' H') (tc_alloc [9,10,11] 10 H (by decide) (by decide) (by decide) (fun σ' H' => N12 c σ' H') (s_tnil)))
theorem N15 (c : MC K σ0 n0 a b p q x y z u m) : ∀ σ,MI σ0 n0 x y z u [9] 4 σ → awpT Try.prog K nd15 n0 ws σ:=fun σ H => by
  rw [nd15_eq]
  exact s_br (tc_alloc [8,9] 8 H (by decide) (by decide) (by decide) (fun σ' H' => N7 c σ' H') (tc_alloc [9,10] 10 H (by decide) (by decide) (by decide) (fun σ' H' => N13 c σ' H') (tc_alloc [9,11] 11 H (by decide) (by decide) (by decide) (fun σ' H' => N14 c σ' H') (s_tnil))))
theorem N16 (c : MC K σ0 n0 a b p q x y z u m) : ∀ σ,MI σ0 n0 x y z u [10,11] 4 σ → awpT Try.prog K nd16 n0 ws σ:=fun σ H => by
  rw [nd16_eq]
  exact s_br (tc_alloc [8,10,11] 8 H (by decide) (by decide) (by decide) (fun σ' H' => N8 c σ' H') (tc_alloc [9,10,11] 9 H (by decide) (by decide) (by decide) (fun σ' H' => N12 c σ' H') (s_tnil)))
theorem N17 (c : MC K σ0 n0 a b p q x y z u m) : ∀ σ,MI σ0 n0 x y z u [10] 4 σ → awpT Try.prog K nd17 n0 ws σ:=fun σ H => by
  rw [nd17_eq]
  exact s_br (tc_alloc [8,10] 8 H (by decide) (by decide) (by decide) (fun σ' H' => N9 c σ' H') (tc_alloc [9,10] 9 H (by decide) (by decide) (by decide) (fun σ' H' => N13 c σ' H') (tc_alloc [10,11] 11 H (by decide) (by decide) (by decide) (fun σ' H' => N16 c σ' H') (s_tnil))))
theorem N18 (c : MC K σ0 n0 a b p q x y z u m) : ∀ σ,MI σ0 n0 x y z u [11] 4 σ → awpT Try.prog K nd18 n0 ws σ:=fun σ H => by
  rw [nd18_eq]
  exact s_br (tc_alloc [8,11] 8 H (by decide) (by decide) (by decide) (fun σ' H' => N10 c σ' H') (tc_alloc [9,11] 9 H (by decide) (by decide) (by decide) (fun σ' H' => N14 c σ' H') (tc_alloc [10,11] 10 H (by decide) (by decide) (by decide) (fun σ' H' => N16 c σ' H') (s_tnil))))
theorem N19 (c : MC K σ0 n0 a b p q x y z u m) : ∀ σ,MI σ0 n0 x y z u [] 4 σ → awpT Try.prog K nd19 n0 ws σ:=fun σ H => by
  rw [nd19_eq]
  exact s_br (tc_alloc [8] 8 H (by decide) (by decide) (by decide) (fun σ' H' => N11 c σ' H') (tc_alloc [9] 9 H (by decide) (by decide) (by decide) (fun σ' H' => N15 c σ' H') (tc_alloc [10] 10 H (by decide) (by decide) (by decide) (fun σ' H' => N17 c σ' H') (tc_alloc [11] 11 H (by decide) (by decide) (by decide) (fun σ' H' => N18 c σ' H') (s_tnil)))))
theorem N20 (c : MC K σ0 n0 a b p q x y z u m) : ∀ σ,MI σ0 n0 x y z u [8,9,10,11] 3 σ → awpT Try.prog K nd20 n0 ws σ:=fun σ H => by
  rw [nd20_eq]
  exact s_br (tc_call4 c H (by decide) (fun σ' H' => N4 c σ' H') (s_tnil))
theorem N21 (c : MC K σ0 n0 a b p q x y z u m) : ∀ σ,MI σ0 n0 x y z u [8,9,10] 3 σ → awpT Try.prog K nd21 n0 ws σ:=fun σ H => by
  rw [nd21_eq]
  exact s_br (tc_call4 c H (by decide) (fun σ' H' => N5 c σ' H') (tc_alloc [8,9,10,11] 11 H (by decide) (by decide) (by decide) (fun σ' H' => N20 c σ' H') (s_tnil)))
theorem N22 (c : MC K σ0 n0 a b p q x y z u m) : ∀ σ,MI σ0 n0 x y z u [8,9,11] 3 σ → awpT Try.prog K nd22 n0 ws σ:=fun σ H => by
  rw [nd22_eq]
  exact s_br (tc_call4 c H (by decide) (fun σ' H' => N6 c σ' H') (tc_alloc [8,9,10,11] 10 H (by decide) (by decide) (by decide) (fun σ' H' => N20 c σ' H') (s_tnil)))
theorem N23 (c : MC K σ0 n0 a b p q x y z u m) : ∀ σ,MI σ0 n0 x y z u [8,9] 3 σ → awpT Try.prog K nd23 n0 ws σ:=fun σ H => by
  rw [nd23_eq]
  exact s_br (tc_call4 c H (by decide) (fun σ' H' => N7 c σ' H') (tc_alloc [8,9,10] 10 H (by decide) (by decide) (by decide) (fun σ' H' => N21 c σ' H') (tc_alloc [8,9,11] 11 H (by decide) (by decide) (by decide) (fun σ' H' => N22 c σ' H') (s_tnil))))
theorem N24 (c : MC K σ0 n0 a b p q x y z u m) : ∀ σ,MI σ0 n0 x y z u [8,10,11] 3 σ → awpT Try.prog K nd24 n0 ws σ:=fun σ H => by
  rw [nd24_eq]
  exact s_br (tc_call4 c H (by decide) (fun σ' H' => N8 c σ' H') (tc_alloc [8,9,10,11] 9 H (by decide) (by decide) (by decide) (fun σ' H' => N20 c σ' H') (s_tnil)))
theorem N25 (c : MC K σ0 n0 a b p q x y z u m) : ∀ σ,MI σ0 n0 x y z u [8,10] 3 σ → awpT Try.prog K nd25 n0 ws σ:=fun σ H => by
  rw [nd25_eq]
  exact s_br (tc_call4 c H (by decide) (fun σ' H' => N9 c σ' H') (tc_alloc [8,9,10] 9 H (by decide) (by decide) (by decide) (fun σ' H' => N21 c σ' H') (tc_alloc [8,10,11] 11 H (by decide) (by decide) (by decide) (fun σ' H' => N24 c σ' H') (s_tnil))))
theorem N26 (c : MC K σ0 n0 a b p q x y z u m) : ∀ σ,MI σ0 n0 x y z u [8,11] 3 σ → awpT Try.prog K nd26 n0 ws σ:=fun σ H => by
  rw [nd26_eq]
  exact s_br (tc_call4 c H (by decide) (fun σ' H' => N10 c σ' H') (tc_alloc [8,9,11] 9 H (by decide) (by decide) (by decide) (fun σ' H' => N22 c σ' H') (tc_alloc [8,10,11] 10 H (by decide) (by decide) (by decide) (fun σ' H' => N24 c σ' H') (s_tnil))))
theorem N27 (c : MC K σ0 n0 a b p q x y z u m) : ∀ σ,MI σ0 n0 x y z u [8] 3 σ → awpT Try.prog K nd27 n0 ws σ:=fun σ H => by
  rw [nd27_eq]
  exact s_br (tc_call4 c H (by decide) (fun σ' H' => N11 c σ' H') (tc_alloc [8,9] 9 H (by decide) (by decide) (by decide) (fun σ' H' => N23 c σ' H') (tc_alloc [8,10] 10 H (by decide) (by decide) (by decide) (fun σ' H' => N25 c σ' H') (tc_alloc [8,11] 11 H (by decide) (by decide) (by decide) (fun σ' H' => N26 c σ' H') (s_tnil)))))
theorem N28 (c : MC K σ0 n0 a b p q x y z u m) : ∀ σ,MI σ0 n0 x y z u [9,10,11] 3 σ → awpT Try.prog K nd28 n0 ws σ:=fun σ H => by
  rw [nd28_eq]
  exact s_br (tc_call4 c H (by decide) (fun σ' H' => N12 c σ' H') (tc_alloc [8,9,10,11] 8 H (by decide) (by decide) (by decide) (fun σ' H' => N20 c σ' H') (s_tnil)))
theorem N29 (c : MC K σ0 n0 a b p q x y z u m) : ∀ σ,MI σ0 n0 x y z u [9,10] 3 σ → awpT Try.prog K nd29 n0 ws σ:=fun σ H => by
  rw [nd29_eq]
  exact s_br (tc_call4 c H (by decide) (fun σ' H' => N13 c σ' H') (tc_alloc [8,9,10] 8 H (by decide) (by decide) (by decide) (fun σ' H' => N21 c σ' H') (tc_alloc [9,10,11] 11 H (by decide) (by decide) (by decide) (fun σ' H' => N28 c σ' H') (s_tnil))))
theorem N30 (c : MC K σ0 n0 a b p q x y z u m) : ∀ σ,MI σ0 n0 x y z u [9,11] 3 σ → awpT Try.prog K nd30 n0 ws σ:=fun σ H => by
  rw [nd30_eq]
  exact s_br (tc_call4 c H (by decide) (fun σ' H' => N14 c σ' H') (tc_alloc [8,9,11] 8 H (by decide) (by decide) (by decide) (fun σ' H' => N22 c σ' H') (tc_alloc [9,10,11] 10 H (by decide) (by decide) (by decide) (fun σ' H' => N28 c σ' H') (s_tnil))))
theorem N31 (c : MC K σ0 n0 a b p q x y z u m) : ∀ σ,MI σ0 n0 x y z u [9] 3 σ → awpT Try.prog K nd31 n0 ws σ:=fun σ H => by
  rw [nd31_eq]
  exact s_br (tc_call4 c H (by decide) (fun σ' H' => N15 c σ' H') (tc_alloc [8,9] 8 H (by decide) (by decide) (by decide) (fun σ' H' => N23 c σ' H') (tc_alloc [9,10] 10 H (by decide) (by decide) (by decide) (fun σ' H' => N29 c σ' H') (tc_alloc [9,11] 11 H (by decide) (by decide) (by decide) (fun σ' H' => N30 c σ' H') (s_tnil)))))
theorem N32 (c : MC K σ0 n0 a b p q x y z u m) : ∀ σ,MI σ0 n0 x y z u [10,11] 3 σ → awpT Try.prog K nd32 n0 ws σ:=fun σ H => by
  rw [nd32_eq]
  exact s_br (tc_call4 c H (by decide) (fun σ' H' => N16 c σ' H') (tc_alloc [8,10,11] 8 H (by decide) (by decide) (by decide) (fun σ' H' => N24 c σ' H') (tc_alloc [9,10,11] 9 H (by decide) (by decide) (by decide) (fun σ' H' => N28 c σ' H') (s_tnil))))
theorem N33 (c : MC K σ0 n0 a b p q x y z u m) : ∀ σ,MI σ0 n0 x y z u [10] 3 σ → awpT Try.prog K nd33 n0 ws σ:=fun σ H => by
  rw [nd33_eq]
  exact s_br (tc_call4 c H (by decide) (fun σ' H' => N17 c σ' H') (tc_alloc [8,10] 8 H (by decide) (by decide) (by decide) (fun σ' H' => N25 c σ' H') (tc_alloc [9,10] 9 H (by decide) (by decide) (by decide) (fun σ' H' => N29 c σ' H') (tc_alloc [10,11] 11 H (by decide) (by decide) (by decide) (fun σ' H' => N32 c σ' H') (s_tnil)))))
theorem N34 (c : MC K σ0 n0 a b p q x y z u m) : ∀ σ,MI σ0 n0 x y z u [11] 3 σ → awpT Try.prog K nd34 n0 ws σ:=fun σ H => by
  rw [nd34_eq]
  exact s_br (tc_call4 c H (by decide) (fun σ' H' => N18 c σ' H') (tc_alloc [8,11] 8 H (by decide) (by decide) (by decide) (fun σ' H' => N26 c σ' H') (tc_alloc [9,11] 9 H (by decide) (by decide) (by decide) (fun σ' H' => N30 c σ' H') (tc_alloc [10,11] 10 H (by decide) (by decide) (by decide) (fun σ' H' => N32 c σ' H') (s_tnil)))))
theorem N35 (c : MC K σ0 n0 a b p q x y z u m) : ∀ σ,MI σ0 n0 x y z u [] 3 σ → awpT Try.prog K nd35 n0 ws σ:=fun σ H => by
  rw [nd35_eq]
  exact s_br (tc_call4 c H (by decide) (fun σ' H' => N19 c σ' H') (tc_alloc [8] 8 H (by decide) (by decide) (by decide) (fun σ' H' => N27 c σ' H') (tc_alloc [9] 9 H (by decide) (by decide) (by decide) (fun σ' H' => N31 c σ' H') (tc_alloc [10] 10 H (by decide) (by decide) (by decide) (fun σ' H' => N33 c σ' H') (tc_alloc [11] 11 H (by decide) (by decide) (by decide) (fun σ' H' => N34 c σ' H') (s_tnil))))))
theorem N36 (c : MC K σ0 n0 a b p q x y z u m) : ∀ σ,MI σ0 n0 x y z u [8,9,10,11] 2 σ → awpT Try.prog K nd36 n0 ws σ:=fun σ H => by
  rw [nd36_eq]
  exact s_br (tc_call3 c H (by decide) (fun σ' H' => N20 c σ' H') (s_tnil))
theorem N37 (c : MC K σ0 n0 a b p q x y z u m) : ∀ σ,MI σ0 n0 x y z u [8,9,10] 2 σ → awpT Try.prog K nd37 n0 ws σ:=fun σ H => by
  rw [nd37_eq]
  exact s_br (tc_call3 c H (by decide) (fun σ' H' => N21 c σ' H') (tc_alloc [8,9,10,11] 11 H (by decide) (by decide) (by decide) (fun σ' H' => N36 c σ' H') (s_tnil)))
theorem N38 (c : MC K σ0 n0 a b p q x y z u m) : ∀ σ,MI σ0 n0 x y z u [8,9,11] 2 σ → awpT Try.prog K nd38 n0 ws σ:=fun σ H => by
  rw [nd38_eq]
  exact s_br (tc_call3 c H (by decide) (fun σ' H' => N22 c σ' H') (tc_alloc [8,9,10,11] 10 H (by decide) (by decide) (by decide) (fun σ' H' => N36 c σ' H') (s_tnil)))
theorem N39 (c : MC K σ0 n0 a b p q x y z u m) : ∀ σ,MI σ0 n0 x y z u [8,9] 2 σ → awpT Try.prog K nd39 n0 ws σ:=fun σ H => by
  rw [nd39_eq]
  exact s_br (tc_call3 c H (by decide) (fun σ' H' => N23 c σ' H') (tc_alloc [8,9,10] 10 H (by decide) (by decide) (by decide) (fun σ' H' => N37 c σ' H') (tc_alloc [8,9,11] 11 H (by decide) (by decide) (by decide) (fun σ' H' => N38 c σ' H') (s_tnil))))
theorem N40 (c : MC K σ0 n0 a b p q x y z u m) : ∀ σ,MI σ0 n0 x y z u [8,10,11] 2 σ → awpT Try.prog K nd40 n0 ws σ:=fun σ H => by
  rw [nd40_eq]
  exact s_br (tc_call3 c H (by decide) (fun σ' H' => N24 c σ' H') (tc_alloc [8,9,10,11] 9 H (by decide) (by decide) (by decide) (fun σ' H' => N36 c σ' H') (s_tnil)))
theorem N41 (c : MC K σ0 n0 a b p q x y z u m) : ∀ σ,MI σ0 n0 x y z u [8,10] 2 σ → awpT Try.prog K nd41 n0 ws σ:=fun σ H => by
  rw [nd41_eq]
  exact s_br (tc_call3 c H (by decide) (fun σ' H' => N25 c σ' H') (tc_alloc [8,9,10] 9 H (by decide) (by decide) (by decide) (fun σ' H' => N37 c σ' H') (tc_alloc [8,10,11] 11 H (by decide) (by decide) (by decide) (fun σ' H' => N40 c σ' H') (s_tnil))))
theorem N42 (c : MC K σ0 n0 a b p q x y z u m) : ∀ σ,MI σ0 n0 x y z u [8,11] 2 σ → awpT Try.prog K nd42 n0 ws σ:=fun σ H => by
  rw [nd42_eq]
  exact s_br (tc_call3 c H (by decide) (fun σ' H' => N26 c σ' H') (tc_alloc [8,9,11] 9 H (by decide) (by decide) (by decide) (fun σ' H' => N38 c σ' H') (tc_alloc [8,10,11] 10 H (by decide) (by decide) (by decide) (fun σ' H' => N40 c σ' H') (s_tnil))))
theorem N43 (c : MC K σ0 n0 a b p q x y z u m) : ∀ σ,MI σ0 n0 x y z u [8] 2 σ → awpT Try.prog K nd43 n0 ws σ:=fun σ H => by
  rw [nd43_eq]
  exact s_br (tc_call3 c H (by decide) (fun σ' H' => N27 c σ' H') (tc_alloc [8,9] 9 H (by decide) (by decide) (by decide) (fun σ' H' => N39 c σ' H') (tc_alloc [8,10] 10 H (by decide) (by decide) (by decide) (fun σ' H' => N41 c σ' H') (tc_alloc [8,11] 11 H (by decide) (by decide) (by decide) (fun σ' H' => N42 c σ' H') (s_tnil)))))
theorem N44 (c : MC K σ0 n0 a b p q x y z u m) : ∀ σ,MI σ0 n0 x y z u [9,10,11] 2 σ → awpT Try.prog K nd44 n0 ws σ:=fun σ H => by
  rw [nd44_eq]
  exact s_br (tc_call3 c H (by decide) (fun σ' H' => N28 c σ' H') (tc_alloc [8,9,10,11] 8 H (by decide) (by decide) (by decide) (fun σ' H' => N36 c σ' H') (s_tnil)))
theorem N45 (c : MC K σ0 n0 a b p q x y z u m) : ∀ σ,MI σ0 n0 x y z u [9,10] 2 σ → awpT Try.prog K nd45 n0 ws σ:=fun σ H => by
  rw [nd45_eq]
  exact s_br (tc_call3 c H (by decide) (fun σ' H' => N29 c σ' H') (tc_alloc [8,9,10] 8 H (by decide) (by decide) (by decide) (fun σ' H' => N37 c σ' H') (tc_alloc [9,10,11] 11 H (by decide) (by decide) (by decide) (fun σ' H' => N44 c σ' H') (s_tnil))))
theorem N46 (c : MC K σ0 n0 a b p q x y z u m) : ∀ σ,MI σ0 n0 x y z u [9,11] 2 σ → awpT Try.prog K nd46 n0 ws σ:=fun σ H => by
  rw [nd46_eq]
  exact s_br (tc_call3 c H (by decide) (fun σ' H' => N30 c σ' H') (tc_alloc [8,9,11] 8 H (by decide) (by decide) (by decide) (fun σ' H' => N38 c σ' H') (tc_alloc [9,10,11] 10 H (by decide) (by decide) (by decide) (fun σ' H' => N44 c σ' H') (s_tnil))))
theorem N47 (c : MC K σ0 n0 a b p q x y z u m) : ∀ σ,MI σ0 n0 x y z u [9] 2 σ → awpT Try.prog K nd47 n0 ws σ:=fun σ H => by
  rw [nd47_eq]
  exact s_br (tc_call3 c H (by decide) (fun σ' H' => N31 c σ' H') (tc_alloc [8,9] 8 H (by decide) (by decide) (by decide) (fun σ' H' => N39 c σ' H') (tc_alloc [9,10] 10 H (by decide) (by decide) (by decide) (fun σ' H' => N45 c σ' H') (tc_alloc [9,11] 11 H (by decide) (by decide) (by decide) (fun σ' H' => N46 c σ' H') (s_tnil)))))
theorem N48 (c : MC K σ0 n0 a b p q x y z u m) : ∀ σ,MI σ0 n0 x y z u [10,11] 2 σ → awpT Try.prog K nd48 n0 ws σ:=fun σ H => by
  rw [nd48_eq]
  exact s_br (tc_call3 c H (by decide) (fun σ' H' => N32 c σ' H') (tc_alloc [8,10,11] 8 H (by decide) (by decide) (by decide) (fun σ' H' => N40 c σ' H') (tc_alloc [9,10,11] 9 H (by decide) (by decide) (by decide) (fun σ' H' => N44 c σ' H') (s_tnil))))
theorem N49 (c : MC K σ0 n0 a b p q x y z u m) : ∀ σ,MI σ0 n0 x y z u [10] 2 σ → awpT Try.prog K nd49 n0 ws σ:=fun σ H => by
  rw [nd49_eq]
  exact s_br (tc_call3 c H (by decide) (fun σ' H' => N33 c σ' H') (tc_alloc [8,10] 8 H (by decide) (by decide) (by decide) (fun σ' H' => N41 c σ' H') (tc_alloc [9,10] 9 H (by decide) (by decide) (by decide) (fun σ' H' => N45 c σ' H') (tc_alloc [10,11] 11 H (by decide) (by decide) (by decide) (fun σ' H' => N48 c σ' H') (s_tnil)))))
theorem N50 (c : MC K σ0 n0 a b p q x y z u m) : ∀ σ,MI σ0 n0 x y z u [11] 2 σ → awpT Try.prog K nd50 n0 ws σ:=fun σ H => by
  rw [nd50_eq]
  exact s_br (tc_call3 c H (by decide) (fun σ' H' => N34 c σ' H') (tc_alloc [8,11] 8 H (by decide) (by decide) (by decide) (fun σ' H' => N42 c σ' H') (tc_alloc [9,11] 9 H (by decide) (by decide) (by decide) (fun σ' H' => N46 c σ' H') (tc_alloc [10,11] 10 H (by decide) (by decide) (by decide) (fun σ' H' => N48 c σ' H') (s_tnil)))))
theorem N51 (c : MC K σ0 n0 a b p q x y z u m) : ∀ σ,MI σ0 n0 x y z u [] 2 σ → awpT Try.prog K nd51 n0 ws σ:=fun σ H => by
  rw [nd51_eq]
  exact s_br (tc_call3 c H (by decide) (fun σ' H' => N35 c σ' H') (tc_alloc [8] 8 H (by decide) (by decide) (by decide) (fun σ' H' => N43 c σ' H') (tc_alloc [9] 9 H (by decide) (by decide) (by decide) (fun σ' H' => N47 c σ' H') (tc_alloc [10] 10 H (by decide) (by decide) (by decide) (fun σ' H' => N49 c σ' H') (tc_alloc [11] 11 H (by decide) (by decide) (by decide) (fun σ' H' => N50 c σ' H') (s_tnil))))))
theorem N52 (c : MC K σ0 n0 a b p q x y z u m) : ∀ σ,MI σ0 n0 x y z u [8,9,10,11] 1 σ → awpT Try.prog K nd52 n0 ws σ:=fun σ H => by
  rw [nd52_eq]
  exact s_br (tc_call2 c H (by decide) (fun σ' H' => N36 c σ' H') (s_tnil))
theorem N53 (c : MC K σ0 n0 a b p q x y z u m) : ∀ σ,MI σ0 n0 x y z u [8,9,10] 1 σ → awpT Try.prog K nd53 n0 ws σ:=fun σ H => by
  rw [nd53_eq]
  exact s_br (tc_call2 c H (by decide) (fun σ' H' => N37 c σ' H') (tc_alloc [8,9,10,11] 11 H (by decide) (by decide) (by decide) (fun σ' H' => N52 c σ' H') (s_tnil)))
theorem N54 (c : MC K σ0 n0 a b p q x y z u m) : ∀ σ,MI σ0 n0 x y z u [8,9,11] 1 σ → awpT Try.prog K nd54 n0 ws σ:=fun σ H => by
  rw [nd54_eq]
  exact s_br (tc_call2 c H (by decide) (fun σ' H' => N38 c σ' H') (tc_alloc [8,9,10,11] 10 H (by decide) (by decide) (by decide) (fun σ' H' => N52 c σ' H') (s_tnil)))
theorem N55 (c : MC K σ0 n0 a b p q x y z u m) : ∀ σ,MI σ0 n0 x y z u [8,9] 1 σ → awpT Try.prog K nd55 n0 ws σ:=fun σ H => by
  rw [nd55_eq]
  exact s_br (tc_call2 c H (by decide) (fun σ' H' => N39 c σ' H') (tc_alloc [8,9,10] 10 H (by decide) (by decide) (by decide) (fun σ' H' => N53 c σ' H') (tc_alloc [8,9,11] 11 H (by decide) (by decide) (by decide) (fun σ' H' => N54 c σ' H') (s_tnil))))
theorem N56 (c : MC K σ0 n0 a b p q x y z u m) : ∀ σ,MI σ0 n0 x y z u [8,10,11] 1 σ → awpT Try.prog K nd56 n0 ws σ:=fun σ H => by
  rw [nd56_eq]
  exact s_br (tc_call2 c H (by decide) (fun σ' H' => N40 c σ' H') (tc_alloc [8,9,10,11] 9 H (by decide) (by decide) (by decide) (fun σ' H' => N52 c σ' H') (s_tnil)))
theorem N57 (c : MC K σ0 n0 a b p q x y z u m) : ∀ σ,MI σ0 n0 x y z u [8,10] 1 σ → awpT Try.prog K nd57 n0 ws σ:=fun σ H => by
  rw [nd57_eq]
  exact s_br (tc_call2 c H (by decide) (fun σ' H' => N41 c σ' H') (tc_alloc [8,9,10] 9 H (by decide) (by decide) (by decide) (fun σ' H' => N53 c σ' H') (tc_alloc [8,10,11] 11 H (by decide) (by decide) (by decide) (fun σ' H' => N56 c σ' H') (s_tnil))))
theorem N58 (c : MC K σ0 n0 a b p q x y z u m) : ∀ σ,MI σ0 n0 x y z u [8,11] 1 σ → awpT Try.prog K nd58 n0 ws σ:=fun σ H => by
  rw [nd58_eq]
  exact s_br (tc_call2 c H (by decide) (fun σ' H' => N42 c σ' H') (tc_alloc [8,9,11] 9 H (by decide) (by decide) (by decide) (fun σ' H' => N54 c σ' H') (tc_alloc [8,10,11] 10 H (by decide) (by decide) (by decide) (fun σ' H' => N56 c σ' H') (s_tnil))))
theorem N59 (c : MC K σ0 n0 a b p q x y z u m) : ∀ σ,MI σ0 n0 x y z u [8] 1 σ → awpT Try.prog K nd59 n0 ws σ:=fun σ H => by
  rw [nd59_eq]
  exact s_br (tc_call2 c H (by decide) (fun σ' H' => N43 c σ' H') (tc_alloc [8,9] 9 H (by decide) (by decide) (by decide) (fun σ' H' => N55 c σ' H') (tc_alloc [8,10] 10 H (by decide) (by decide) (by decide) (fun σ' H' => N57 c σ' H') (tc_alloc [8,11] 11 H (by decide) (by decide) (by decide) (fun σ' H' => N58 c σ' H') (s_tnil)))))
theorem N60 (c : MC K σ0 n0 a b p q x y z u m) : ∀ σ,MI σ0 n0 x y z u [9,10,11] 1 σ → awpT Try.prog K nd60 n0 ws σ:=fun σ H => by
  rw [nd60_eq]
  exact s_br (tc_call2 c H (by decide) (fun σ' H' => N44 c σ' H') (tc_alloc [8,9,10,11] 8 H (by decide) (by decide) (by decide) (fun σ' H' => N52 c σ' H') (s_tnil)))
theorem N61 (c : MC K σ0 n0 a b p q x y z u m) : ∀ σ,MI σ0 n0 x y z u [9,10] 1 σ → awpT Try.prog K nd61 n0 ws σ:=fun σ H => by
  rw [nd61_eq]
  exact s_br (tc_call2 c H (by decide) (fun σ' H' => N45 c σ' H') (tc_alloc [8,9,10] 8 H (by decide) (by decide) (by decide) (fun σ' H' => N53 c σ' H') (tc_alloc [9,10,11] 11 H (by decide) (by decide) (by decide) (fun σ' H' => N60 c σ' H') (s_tnil))))
theorem N62 (c : MC K σ0 n0 a b p q x y z u m) : ∀ σ,MI σ0 n0 x y z u [9,11] 1 σ → awpT Try.prog K nd62 n0 ws σ:=fun σ H => by
  rw [nd62_eq]
  exact s_br (tc_call2 c H (by decide) (fun σ' H' => N46 c σ' H') (tc_alloc [8,9,11] 8 H (by decide) (by decide) (by decide) (fun σ' H' => N54 c σ' H') (tc_alloc [9,10,11] 10 H (by decide) (by decide) (by decide) (fun σ' H' => N60 c σ' H') (s_tnil))))
theorem N63 (c : MC K σ0 n0 a b p q x y z u m) : ∀ σ,MI σ0 n0 x y z u [9] 1 σ → awpT Try.prog K nd63 n0 ws σ:=fun σ H => by
  rw [nd63_eq]
  exact s_br (tc_call2 c H (by decide) (fun σ' H' => N47 c σ' H') (tc_alloc [8,9] 8 H (by decide) (by decide) (by decide) (fun σ' H' => N55 c σ' H') (tc_alloc [9,10] 10 H (by decide) (by decide) (by decide) (fun σ' H' => N61 c σ' H') (tc_alloc [9,11] 11 H (by decide) (by decide) (by decide) (fun σ' H' => N62 c σ' H') (s_tnil)))))
theorem N64 (c : MC K σ0 n0 a b p q x y z u m) : ∀ σ,MI σ0 n0 x y z u [10,11] 1 σ → awpT Try.prog K nd64 n0 ws σ:=fun σ H => by
  rw [nd64_eq]
  exact s_br (tc_call2 c H (by decide) (fun σ' H' => N48 c σ' H') (tc_alloc [8,10,11] 8 H (by decide) (by decide) (by decide) (fun σ' H' => N56 c σ' H') (tc_alloc [9,10,11] 9 H (by decide) (by decide) (by decide) (fun σ' H' => N60 c σ' H') (s_tnil))))
theorem N65 (c : MC K σ0 n0 a b p q x y z u m) : ∀ σ,MI σ0 n0 x y z u [10] 1 σ → awpT Try.prog K nd65 n0 ws σ:=fun σ H => by
  rw [nd65_eq]
  exact s_br (tc_call2 c H (by decide) (fun σ' H' => N49 c σ' H') (tc_alloc [8,10] 8 H (by decide) (by decide) (by decide) (fun σ' H' => N57 c σ' H') (tc_alloc [9,10] 9 H (by decide) (by decide) (by decide) (fun σ' H' => N61 c σ' H') (tc_alloc [10,11] 11 H (by decide) (by decide) (by decide) (fun σ' H' => N64 c σ' H') (s_tnil)))))
theorem N66 (c : MC K σ0 n0 a b p q x y z u m) : ∀ σ,MI σ0 n0 x y z u [11] 1 σ → awpT Try.prog K nd66 n0 ws σ:=fun σ H => by
  rw [nd66_eq]
  exact s_br (tc_call2 c H (by decide) (fun σ' H' => N50 c σ' H') (tc_alloc [8,11] 8 H (by decide) (by decide) (by decide) (fun σ' H' => N58 c σ' H') (tc_alloc [9,11] 9 H (by decide) (by decide) (by decide) (fun σ' H' => N62 c σ' H') (tc_alloc [10,11] 10 H (by decide) (by decide) (by decide) (fun σ' H' => N64 c σ' H') (s_tnil)))))
theorem N67 (c : MC K σ0 n0 a b p q x y z u m) : ∀ σ,MI σ0 n0 x y z u [] 1 σ → awpT Try.prog K nd67 n0 ws σ:=fun σ H => by
  rw [nd67_eq]
  exact s_br (tc_call2 c H (by decide) (fun σ' H' => N51 c σ' H') (tc_alloc [8] 8 H (by decide) (by decide) (by decide) (fun σ' H' => N59 c σ' H') (tc_alloc [9] 9 H (by decide) (by decide) (by decide) (fun σ' H' => N63 c σ' H') (tc_alloc [10] 10 H (by decide) (by decide) (by decide) (fun σ' H' => N65 c σ' H') (tc_alloc [11] 11 H (by decide) (by decide) (by decide) (fun σ' H' => N66 c σ' H') (s_tnil))))))
theorem N68 (c : MC K σ0 n0 a b p q x y z u m) : ∀ σ,MI σ0 n0 x y z u [8,9,10,11] 0 σ → awpT Try.prog K nd68 n0 ws σ:=fun σ H => by
  rw [nd68_eq]
  exact s_br (tc_call1 c H (by decide) (fun σ' H' => N52 c σ' H') (s_tnil))
theorem N69 (c : MC K σ0 n0 a b p q x y z u m) : ∀ σ,MI σ0 n0 x y z u [8,9,10] 0 σ → awpT Try.prog K nd69 n0 ws σ:=fun σ H => by
  rw [nd69_eq]
  exact s_br (tc_call1 c H (by decide) (fun σ' H' => N53 c σ' H') (tc_alloc [8,9,10,11] 11 H (by decide) (by decide) (by decide) (fun σ' H' => N68 c σ' H') (s_tnil)))
theorem N70 (c : MC K σ0 n0 a b p q x y z u m) : ∀ σ,MI σ0 n0 x y z u [8,9,11] 0 σ → awpT Try.prog K nd70 n0 ws σ:=fun σ H => by
  rw [nd70_eq]
  exact s_br (tc_call1 c H (by decide) (fun σ' H' => N54 c σ' H') (tc_alloc [8,9,10,11] 10 H (by decide) (by decide) (by decide) (fun σ' H' => N68 c σ' H') (s_tnil)))
theorem N71 (c : MC K σ0 n0 a b p q x y z u m) : ∀ σ,MI σ0 n0 x y z u [8,9] 0 σ → awpT Try.prog K nd71 n0 ws σ:=fun σ H => by
  rw [nd71_eq]
  exact s_br (tc_call1 c H (by decide) (fun σ' H' => N55 c σ' H') (tc_alloc [8,9,10] 10 H (by decide) (by decide) (by decide) (fun σ' H' => N69 c σ' H') (tc_alloc [8,9,11] 11 H (by decide) (by decide) (by decide) (fun σ' H' => N70 c σ' H') (s_tnil))))
theorem N72 (c : MC K σ0 n0 a b p q x y z u m) : ∀ σ,MI σ0 n0 x y z u [8,10,11] 0 σ → awpT Try.prog K nd72 n0 ws σ:=fun σ H => by
  rw [nd72_eq]
  exact s_br (tc_call1 c H (by decide) (fun σ' H' => N56 c σ' H') (tc_alloc [8,9,10,11] 9 H (by decide) (by decide) (by decide) (fun σ' H' => N68 c σ' H') (s_tnil)))
theorem N73 (c : MC K σ0 n0 a b p q x y z u m) : ∀ σ,MI σ0 n0 x y z u [8,10] 0 σ → awpT Try.prog K nd73 n0 ws σ:=fun σ H => by
  rw [nd73_eq]
  exact s_br (tc_call1 c H (by decide) (fun σ' H' => N57 c σ' H') (tc_alloc [8,9,10] 9 H (by decide) (by decide) (by decide) (fun σ' H' => N69 c σ' H') (tc_alloc [8,10,11] 11 H (by decide) (by decide) (by decide) (fun σ' H' => N72 c σ' H') (s_tnil))))
theorem N74 (c : MC K σ0 n0 a b p q x y z u m) : ∀ σ,MI σ0 n0 x y z u [8,11] 0 σ → awpT Try.prog K nd74 n0 ws σ:=fun σ H => by
  rw [nd74_eq]
  exact s_br (tc_call1 c H (by decide) (fun σ' H' => N58 c σ' H') (tc_alloc [8,9,11] 9 H (by decide) (by decide) (by decide) (fun σ' H' => N70 c σ' H') (tc_alloc [8,10,11] 10 H (by decide) (by decide) (by decide) (fun σ' H' => N72 c σ' H') (s_tnil))))
theorem N75 (c : MC K σ0 n0 a b p q x y z u m) : ∀ σ,MI σ0 n0 x y z u [8] 0 σ → awpT Try.prog K nd75 n0 ws σ:=fun σ H => by
  rw [nd75_eq]
  exact s_br (tc_call1 c H (by decide) (fun σ' H' => N59 c σ' H') (tc_alloc [8,9] 9 H (by decide) (by decide) (by decide) (fun σ' H' => N71 c σ' H') (tc_alloc [8,10] 10 H (by decide) (by decide) (by decide) (fun σ' H' => N73 c σ' H') (tc_alloc [8,11] 11 H (by decide) (by decide) (by decide) (fun σ' H' => N74 c σ' H') (s_tnil)))))
theorem N76 (c : MC K σ0 n0 a b p q x y z u m) : ∀ σ,MI σ0 n0 x y z u [9,10,11] 0 σ → awpT Try.prog K nd76 n0 ws σ:=fun σ H => by
  rw [nd76_eq]
  exact s_br (tc_call1 c H (by decide) (fun σ' H' => N60 c σ' H') (tc_alloc [8,9,10,11] 8 H (by decide) (by decide) (by decide) (fun σ' H' => N68 c σ' H') (s_tnil)))
theorem N77 (c : MC K σ0 n0 a b p q x y z u m) : ∀ σ,MI σ0 n0 x y z u [9,10] 0 σ → awpT Try.prog K nd77 n0 ws σ:=fun σ H => by
  rw [nd77_eq]
  exact s_br (tc_call1 c H (by decide) (fun σ' H' => N61 c σ' H') (tc_alloc [8,9,10] 8 H (by decide) (by decide) (by decide) (fun σ' H' => N69 c σ' H') (tc_alloc [9,10,11] 11 H (by decide) (by decide) (by decide) (fun σ' H' => N76 c σ' H') (s_tnil))))
theorem N78 (c : MC K σ0 n0 a b p q x y z u m) : ∀ σ,MI σ0 n0 x y z u [9,11] 0 σ → awpT Try.prog K nd78 n0 ws σ:=fun σ H => by
  rw [nd78_eq]
  exact s_br (tc_call1 c H (by decide) (fun σ' H' => N62 c σ' H') (tc_alloc [8,9,11] 8 H (by decide) (by decide) (by decide) (fun σ' H' => N70 c σ' H') (tc_alloc [9,10,11] 10 H (by decide) (by decide) (by decide) (fun σ' H' => N76 c σ' H') (s_tnil))))
theorem N79 (c : MC K σ0 n0 a b p q x y z u m) : ∀ σ,MI σ0 n0 x y z u [9] 0 σ → awpT Try.prog K nd79 n0 ws σ:=fun σ H => by
  rw [nd79_eq]
  exact s_br (tc_call1 c H (by decide) (fun σ' H' => N63 c σ' H') (tc_alloc [8,9] 8 H (by decide) (by decide) (by decide) (fun σ' H' => N71 c σ' H') (tc_alloc [9,10] 10 H (by decide) (by decide) (by decide) (fun σ' H' => N77 c σ' H') (tc_alloc [9,11] 11 H (by decide) (by decide) (by decide) (fun σ' H' => N78 c σ' H') (s_tnil)))))
theorem N80 (c : MC K σ0 n0 a b p q x y z u m) : ∀ σ,MI σ0 n0 x y z u [10,11] 0 σ → awpT Try.prog K nd80 n0 ws σ:=fun σ H => by
  rw [nd80_eq]
  exact s_br (tc_call1 c H (by decide) (fun σ' H' => N64 c σ' H') (tc_alloc [8,10,11] 8 H (by decide) (by decide) (by decide) (fun σ' H' => N72 c σ' H') (tc_alloc [9,10,11] 9 H (by decide) (by decide) (by decide) (fun σ' H' => N76 c σ' H') (s_tnil))))
theorem N81 (c : MC K σ0 n0 a b p q x y z u m) : ∀ σ,MI σ0 n0 x y z u [10] 0 σ → awpT Try.prog K nd81 n0 ws σ:=fun σ H => by
  rw [nd81_eq]
  exact s_br (tc_call1 c H (by decide) (fun σ' H' => N65 c σ' H') (tc_alloc [8,10] 8 H (by decide) (by decide) (by decide) (fun σ' H' => N73 c σ' H') (tc_alloc [9,10] 9 H (by decide) (by decide) (by decide) (fun σ' H' => N77 c σ' H') (tc_alloc [10,11] 11 H (by decide) (by decide) (by decide) (fun σ' H' => N80 c σ' H') (s_tnil)))))
theorem N82 (c : MC K σ0 n0 a b p q x y z u m) : ∀ σ,MI σ0 n0 x y z u [11] 0 σ → awpT Try.prog K nd82 n0 ws σ:=fun σ H => by
  rw [nd82_eq]
  exact s_br (tc_call1 c H (by decide) (fun σ' H' => N66 c σ' H') (tc_alloc [8,11] 8 H (by decide) (by decide) (by decide) (fun σ' H' => N74 c σ' H') (tc_alloc [9,11] 9 H (by decide) (by decide) (by decide) (fun σ' H' => N78 c σ' H') (tc_alloc [10,11] 10 H (by decide) (by decide) (by decide) (fun σ' H' => N80 c σ' H') (s_tnil)))))
theorem N83 (c : MC K σ0 n0 a b p q x y z u m) : ∀ σ,MI σ0 n0 x y z u [] 0 σ → awpT Try.prog K nd83 n0 ws σ:=fun σ H => by
  rw [nd83_eq]
  exact s_br (tc_call1 c H (by decide) (fun σ' H' => N67 c σ' H') (tc_alloc [8] 8 H (by decide) (by decide) (by decide) (fun σ' H' => N75 c σ' H') (tc_alloc [9] 9 H (by decide) (by decide) (by decide) (fun σ' H' => N79 c σ' H') (tc_alloc [10] 10 H (by decide) (by decide) (by decide) (fun σ' H' => N81 c σ' H') (tc_alloc [11] 11 H (by decide) (by decide) (by decide) (fun σ' H' => N82 c σ' H') (s_tnil))))))
end
end Go.Proofs.Ytlddcimpdkcgeaa
