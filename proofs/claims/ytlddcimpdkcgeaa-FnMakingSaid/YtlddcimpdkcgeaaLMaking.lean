/- The law. -/
import Derived.Test.YtlddcimpdkcgeaaX3
import Derived.Test.YtlddcimpdkcgeaaG7
import Derived.Test.YtlddcimpdkcgeaaF7
set_option linter.unusedVariables false
set_option linter.unusedSimpArgs false
set_option maxRecDepth 20000
set_option maxHeartbeats 16000000
namespace Go.Proofs.Ytlddcimpdkcgeaa
open Go.RowKit Sym Go
/-- The ways meet in just these states. -/
theorem s_cutE {P : Program} {k : List Nat} {y : AC} {Q : Ex → St → Prop} {σ : St} (ι : Type) (M : ι → St) (h1 : awpT P (fun σ' => ∃ i,σ'.keep k = M i) nd88 0 [] σ) (h2 : ∀ i,awp P y Q (M i)) : awp P (.seq (.tree nd88 k) y) Q σ :=
  ⟨fun σ' => ∃ i,σ' = M i,fun σ' ⟨i,hi⟩ => ⟨M i,.inl hi.symm,h2 i⟩,h1⟩
theorem s_cutE2 {P : Program} {t : Tr} {k : List Nat} {y : AC} {Q : Ex → St → Prop} {σ : St} (M : St) (h1 : awpT P (fun σ' => σ'.keep k = M) t 0 [] σ) (h2 : awp P y Q M) : awp P (.seq (.tree t k) y) Q σ :=
  ⟨fun σ' => σ' = M,fun σ' hi => ⟨M,.inl hi.symm,h2⟩,h1⟩
/-- Four boxes in whatever places. -/
def MkI (a b p q x y z u : Term) : Type:={ v : List O × Nat × Nat × Nat × Nat // v.1[0]? = some (bxT a) ∧ v.1[1]? = some (bxT b) ∧ v.1[2]? = some (bxT p) ∧ v.1[3]? = some (bxT q) ∧
  v.1[v.2.1]? = some (bxT x) ∧ v.1[v.2.2.1]? = some (bxT y) ∧ v.1[v.2.2.2.1]? = some (bxT z) ∧ v.1[v.2.2.2.2]? = some (bxT u) }
def MkM (a b p q x y z u : Term) (m : Int) (v : MkI a b p q x y z u) : St:=⟨[(3,.ptr 0 0),(4,.ptr 1 0),(5,.d false (.int .i64 m)),(6,.ptr 2 0),(7,.ptr 3 0),(8,.ptr v.1.2.1 0),(9,.ptr v.1.2.2.1 0),(10,.ptr v.1.2.2.2.1 0),(11,.ptr v.1.2.2.2.2 0)],v.1.1⟩
theorem mkM_of {a b p q x y z u : Term} {m : Int} {σ0 σ : St} {n0 : Nat} (h : MF σ0 n0 x y z u σ) (hn : 4 ≤ n0) (h3 : lkp σ0.t 3 = .ptr 0 0) (h4 : lkp σ0.t 4 = .ptr 1 0) (h5 : lkp σ0.t 5 = .d false (.int .i64 m)) (h6 : lkp σ0.t 6 = .ptr 2 0) (h7 : lkp σ0.t 7 = .ptr 3 0)
    (g0 : σ0.h[0]? = some (bxT a)) (g1 : σ0.h[1]? = some (bxT b)) (g2 : σ0.h[2]? = some (bxT p)) (g3 : σ0.h[3]? = some (bxT q)) : ∃ i,σ.keep [3,4,5,6,7,8,9,10,11] = MkM a b p q x y z u m i:=by
  obtain ⟨p8,p9,p10,p11,e8,e9,e10,e11,k8,k9,k10,k11⟩:=h.p
  refine ⟨⟨(σ.h,p8,p9,p10,p11),(h.h 0 (by omega)).trans g0,(h.h 1 (by omega)).trans g1,(h.h 2 (by omega)).trans g2,(h.h 3 (by omega)).trans g3,k8,k9,k10,k11⟩,?_⟩
  have f3:=(h.t 3 (by simp)).trans h3
  have f4:=(h.t 4 (by simp)).trans h4
  have f5:=(h.t 5 (by simp)).trans h5
  have f6:=(h.t 6 (by simp)).trans h6
  have f7:=(h.t 7 (by simp)).trans h7
  simp only [St.keep,keepT,MkM,f3,f4,f5,f6,f7,e8,e9,e10,e11]
theorem MI.start {σ : St} {n0 : Nat} {x y z u : Term} (h : n0 ≤ σ.h.length) : MI σ n0 x y z u [] 0 σ :=
  ⟨fun _ _ => rfl,fun _ _ => rfl,h,fun h => by omega,fun h => by omega,fun h => by omega,fun h => by omega,fun _ => 0,fun d hd => by cases hd⟩
theorem N83S {K : St → Prop} {σ : St} {n0 : Nat} {ws : List Nat} {a b p q x y z u : Term} {m : Int} (c : MC K σ n0 a b p q x y z u m) (h : n0 ≤ σ.h.length) : awpT Try.prog K nd83 n0 ws σ:=N83 c σ (MI.start h)
theorem made_ok (t : Term) : (rightOr t).op = 0 ∨ ((rightOr t).op ≠ 0 ∧ okT (rightOr t) = true):=by
  unfold rightOr
  cases ho : okT t with
  | true =>
    by_cases h : t.op = 0
    · exact .inl h
    · exact .inr ⟨h,ho⟩
  | false => exact .inl rfl
attribute [local irreducible] awp aops aopsQ gop gopQ gopO gopOQ gopV gopT awpN awpT awpTs ACall after
theorem big_ct (b : List Int) : Ct Try.prog 6 [.d false (.sl (encB b))] (.d true (.bool (decide (1048576 < (b.length : Int))))):=by
  refine ok6.ct mo Try.func6 (by simp) rfl fun hok => ?_
  unfold ac6
  repeat' first|assumption|first|refine s_opt1 ?_|refine s_opt0 ?_|refine s_optq1 ?_|refine s_optq0 ?_|(refine s_norm ?_;try simp only [wsN,wsI,rmv,rng,X.ev,lkp,peel,cond_true,cond_false,nbeq,Nat.reduceBEq,Nat.reduceSub,Nat.reduceAdd,Nat.zero_add,Nat.sub_zero,Nat.sub_self,List.length_cons,List.length_nil,List.length_append,List.cons_append,List.nil_append,List.append_nil])|(refine s_take fun K hK => ?_)|(refine s_cons (fun K hK => ?_) ?_)|exact s_tnil|refine s_br ?_|refine s_done ?_|refine s_seq fun K hK => ?_|refine s_region ?_|refine s_draw ?_|refine s_tree ?_|refine s_op fun K hK => ?_|refine s_opq fun K hK => ?_|refine s_ops ?_|refine s_endq ?_|simp only [go_sem,Int.reduceToNat,Int.reduceEq,Nat.reduceAdd,Nat.reduceBEq,Nat.reduceLeDiff,Nat.reduceLT,Int.reduceLT,Int.reduceLE,Int.reduceNeg,reduceCtorEq,encB_length]|(first|(refine hK _ ?_;clear hK K)|(clear hK K;refine hK _ ?_;clear hK K)|(clear hK K;clear hK K;refine hK _ ?_;clear hK K))|refine And.intro ?_ ?_
  all_goals first|(simp [go_sem,tids,A.tid,A.tid.go,List.cons_append,frzT,St.frz,A.sub,A.subL,O.sub,subT,subH,frzY,frzZ,Post,aret,evRs,RV.ev,tupA,A.Le,A.LeL,lkp,St.frzs,St.frz,A.ids,A.idsL,cond_true,cond_false,nbeq,nble,decide_true,decide_false,Nat.reduceLeDiff,Nat.reduceBEq,Nat.reduceAdd,beq_self_eq_true,true_and,and_true,true_implies,List.append_nil,List.nil_append,List.getElem?_cons_zero,List.getElem?_cons_succ,List.length_cons,List.length_nil,List.drop_zero,List.take_succ_cons,List.take_zero,and_self];done)|trivial|skip
theorem law_Making (b : List Int) : Ct Try.prog 3 [.d false (.sl (encB b))] (.d true (.bool true)):=by
  have hbig:=big_ct b
  refine ok3.ct mo Try.func3 (by simp) rfl fun hok => ?_
  unfold ac3
  by_cases hl : (1048576 : Int) < b.length
  · rw [decide_eq_true hl] at hbig
    repeat' first|assumption|first|refine s_opt1 ?_|refine s_opt0 ?_|refine s_optq1 ?_|refine s_optq0 ?_|(refine s_norm ?_;try simp only [wsN,wsI,rmv,rng,X.ev,lkp,peel,cond_true,cond_false,nbeq,Nat.reduceBEq,Nat.reduceSub,Nat.reduceAdd,Nat.zero_add,Nat.sub_zero,Nat.sub_self,List.length_cons,List.length_nil,List.length_append,List.cons_append,List.nil_append,List.append_nil])|(refine s_take fun K hK => ?_)|(refine s_cons (fun K hK => ?_) ?_)|exact s_tnil|refine s_br ?_|refine s_done ?_|refine s_seq fun K hK => ?_|refine s_region ?_|refine s_draw ?_|refine s_tree ?_|refine s_op fun K hK => ?_|refine s_opq fun K hK => ?_|refine s_ops ?_|refine s_endq ?_|simp only [go_sem,Int.reduceToNat,Int.reduceEq,Nat.reduceAdd,Nat.reduceBEq,Nat.reduceLeDiff,Nat.reduceLT,Int.reduceLT,Int.reduceLE,Int.reduceNeg,reduceCtorEq,Nat.sub_self]|(first|(refine hK _ ?_;clear hK K)|(clear hK K;refine hK _ ?_;clear hK K)|(clear hK K;clear hK K;refine hK _ ?_;clear hK K))|refine And.intro ?_ ?_|refine s_call hbig ?_
    all_goals first|(simp [go_sem,tids,A.tid,A.tid.go,List.cons_append,frzT,St.frz,A.sub,A.subL,O.sub,subT,subH,frzY,frzZ,Post,aret,evRs,RV.ev,tupA,A.Le,A.LeL,lkp,St.frzs,St.frz,A.ids,A.idsL,cond_true,cond_false,nbeq,nble,decide_true,decide_false,Nat.reduceLeDiff,Nat.reduceBEq,Nat.reduceAdd,beq_self_eq_true,true_and,and_true,true_implies,List.append_nil,List.nil_append,List.getElem?_cons_zero,List.getElem?_cons_succ,List.length_cons,List.length_nil,List.drop_zero,List.take_succ_cons,List.take_zero,and_self];done)|trivial|skip
  · rw [decide_eq_false hl] at hbig
    have hb : b.length ≤ 1048576:=by omega
    repeat' first|assumption|first|refine s_opt1 ?_|refine s_opt0 ?_|refine s_optq1 ?_|refine s_optq0 ?_|(refine s_norm ?_;try simp only [wsN,wsI,rmv,rng,X.ev,lkp,peel,cond_true,cond_false,nbeq,Nat.reduceBEq,Nat.reduceSub,Nat.reduceAdd,Nat.zero_add,Nat.sub_zero,Nat.sub_self,List.length_cons,List.length_nil,List.length_append,List.cons_append,List.nil_append,List.append_nil])|(refine s_take fun K hK => ?_)|(refine s_cons (fun K hK => ?_) ?_)|exact s_tnil|refine s_br ?_|refine s_done ?_|refine s_seq fun K hK => ?_|refine s_region ?_|refine s_draw ?_|refine s_tree ?_|refine s_op fun K hK => ?_|refine s_opq fun K hK => ?_|refine s_ops ?_|refine s_endq ?_|simp only [go_sem,Int.reduceToNat,Int.reduceEq,Nat.reduceAdd,Nat.reduceBEq,Nat.reduceLeDiff,Nat.reduceLT,Int.reduceLT,Int.reduceLE,Int.reduceNeg,reduceCtorEq,Nat.sub_self]|(first|(refine hK _ ?_;clear hK K)|(clear hK K;refine hK _ ?_;clear hK K)|(clear hK K;clear hK K;refine hK _ ?_;clear hK K))|refine And.intro ?_ ?_|refine s_call hbig ?_|refine s_callh [] [] (drawPair_ct b hb) rfl rfl (by first|trivial|exact ⟨rfl,trivial⟩) (by decide) rfl (by first|trivial|exact ⟨rfl,trivial⟩|simp [allK,mkB,inL]) ?_
    all_goals first|(show ∀ _ _,_ → _;skip)|(simp;done)|skip
    rintro r hs ⟨s,t,hs',ht,rfl,rfl⟩
    repeat' first|assumption|first|refine s_opt1 ?_|refine s_opt0 ?_|refine s_optq1 ?_|refine s_optq0 ?_|(refine s_norm ?_;try simp only [wsN,wsI,rmv,rng,X.ev,lkp,peel,cond_true,cond_false,nbeq,Nat.reduceBEq,Nat.reduceSub,Nat.reduceAdd,Nat.zero_add,Nat.sub_zero,Nat.sub_self,List.length_cons,List.length_nil,List.length_append,List.cons_append,List.nil_append,List.append_nil])|(refine s_take fun K hK => ?_)|(refine s_cons (fun K hK => ?_) ?_)|exact s_tnil|refine s_br ?_|refine s_done ?_|refine s_seq fun K hK => ?_|refine s_region ?_|refine s_draw ?_|refine s_tree ?_|refine s_op fun K hK => ?_|refine s_opq fun K hK => ?_|refine s_ops ?_|refine s_endq ?_|simp only [go_sem,Int.reduceToNat,Int.reduceEq,Nat.reduceAdd,Nat.reduceBEq,Nat.reduceLeDiff,Nat.reduceLT,Int.reduceLT,Int.reduceLE,Int.reduceNeg,reduceCtorEq,Nat.sub_self,Term.v_eq]|(first|(refine hK _ ?_;clear hK K)|(clear hK K;refine hK _ ?_;clear hK K)|(clear hK K;clear hK K;refine hK _ ?_;clear hK K))|refine And.intro ?_ ?_|refine s_callh [] [] (drawAtom_ct b hb) rfl rfl (by first|trivial|exact ⟨rfl,trivial⟩) (by decide) rfl (by first|trivial|exact ⟨rfl,trivial⟩|simp [allK,mkB,inL]) ?_
    all_goals first|(show ∀ _ _,_ → _;skip)|(simp;done)|skip
    rintro r hs ⟨n,rfl,rfl⟩
    repeat' first|assumption|first|refine s_opt1 ?_|refine s_opt0 ?_|refine s_optq1 ?_|refine s_optq0 ?_|(refine s_norm ?_;try simp only [wsN,wsI,rmv,rng,X.ev,lkp,peel,cond_true,cond_false,nbeq,Nat.reduceBEq,Nat.reduceSub,Nat.reduceAdd,Nat.zero_add,Nat.sub_zero,Nat.sub_self,List.length_cons,List.length_nil,List.length_append,List.cons_append,List.nil_append,List.append_nil])|(refine s_take fun K hK => ?_)|(refine s_cons (fun K hK => ?_) ?_)|exact s_tnil|refine s_br ?_|refine s_done ?_|refine s_seq fun K hK => ?_|refine s_region ?_|refine s_draw ?_|refine s_tree ?_|refine s_op fun K hK => ?_|refine s_opq fun K hK => ?_|refine s_ops ?_|refine s_endq ?_|simp only [go_sem,Int.reduceToNat,Int.reduceEq,Nat.reduceAdd,Nat.reduceBEq,Nat.reduceLeDiff,Nat.reduceLT,Int.reduceLT,Int.reduceLE,Int.reduceNeg,reduceCtorEq,Nat.sub_self]|(first|(refine hK _ ?_;clear hK K)|(clear hK K;refine hK _ ?_;clear hK K)|(clear hK K;clear hK K;refine hK _ ?_;clear hK K))|refine And.intro ?_ ?_|refine s_callh [] [] (drawPub_ct b hb) rfl rfl (by first|trivial|exact ⟨rfl,trivial⟩) (by decide) rfl (by first|trivial|exact ⟨rfl,trivial⟩|simp [allK,mkB,inL]) ?_
    all_goals first|(show ∀ _ _,_ → _;skip)|(simp;done)|skip
    rintro r hs ⟨p,hp,rfl,rfl⟩
    repeat' first|assumption|first|refine s_opt1 ?_|refine s_opt0 ?_|refine s_optq1 ?_|refine s_optq0 ?_|(refine s_norm ?_;try simp only [wsN,wsI,rmv,rng,X.ev,lkp,peel,cond_true,cond_false,nbeq,Nat.reduceBEq,Nat.reduceSub,Nat.reduceAdd,Nat.zero_add,Nat.sub_zero,Nat.sub_self,List.length_cons,List.length_nil,List.length_append,List.cons_append,List.nil_append,List.append_nil])|(refine s_take fun K hK => ?_)|(refine s_cons (fun K hK => ?_) ?_)|exact s_tnil|refine s_br ?_|refine s_done ?_|refine s_seq fun K hK => ?_|refine s_region ?_|refine s_draw ?_|refine s_tree ?_|refine s_op fun K hK => ?_|refine s_opq fun K hK => ?_|refine s_ops ?_|refine s_endq ?_|simp only [go_sem,Int.reduceToNat,Int.reduceEq,Nat.reduceAdd,Nat.reduceBEq,Nat.reduceLeDiff,Nat.reduceLT,Int.reduceLT,Int.reduceLE,Int.reduceNeg,reduceCtorEq,Nat.sub_self,Term.v_eq]|(first|(refine hK _ ?_;clear hK K)|(clear hK K;refine hK _ ?_;clear hK K)|(clear hK K;clear hK K;refine hK _ ?_;clear hK K))|refine And.intro ?_ ?_|refine s_callh [] [] (drawHash_ct b hb) rfl rfl (by first|trivial|exact ⟨rfl,trivial⟩) (by decide) rfl (by first|trivial|exact ⟨rfl,trivial⟩|simp [allK,mkB,inL]) ?_
    all_goals first|(show ∀ _ _,_ → _;skip)|(simp;done)|skip
    rintro r hs ⟨q,hq,rfl,rfl⟩
    have i1:=Term.w_v (pair2_ct s t (by omega) (by omega))
    have i2:=Term.w_v (atom2_ct n)
    have i3:=Term.w_v (pub2_ct p (by omega))
    have i4:=Term.w_v (hash2_ct q (by omega))
    have r1:=pair1_ct s t (by omega) (by omega)
    have r2:=atom1_ct n
    have r3:=pub1_ct p (by omega)
    have r4:=hash1_ct q (by omega)
    have m1:=made_ok (.mk 3 0 ⟨#[]⟩ [s,t])
    have m2:=made_ok (.mk 1 n ⟨#[]⟩ [])
    have m3:=made_ok (.mk 4 0 ⟨#[]⟩ [p])
    have m4:=made_ok (.mk 6 0 ⟨#[]⟩ [q])
    generalize rightOr (.mk 3 0 ⟨#[]⟩ [s,t]) = x at *
    generalize rightOr (.mk 1 n ⟨#[]⟩ []) = y at *
    generalize rightOr (.mk 4 0 ⟨#[]⟩ [p]) = z at *
    generalize rightOr (.mk 6 0 ⟨#[]⟩ [q]) = u at *
    have e1:=same2_ct x x
    have e2:=same2_ct y y
    have e3:=same2_ct z z
    have e4:=same2_ct u u
    rw [eqT_refl] at e1 e2 e3 e4
    have o1:=termOk2_ct x
    have o2:=termOk2_ct y
    have o3:=termOk2_ct z
    have o4:=termOk2_ct u
    simp only [Term.v_eq] at r1 r2 r3 r4 e1 e2 e3 e4 o1 o2 o3 o4
    repeat' first|refine s_cutE _ (MkM s t p q x y z u n) ?_ ?_|first|refine s_opt1 ?_|refine s_opt0 ?_|refine s_optq1 ?_|refine s_optq0 ?_|(refine s_norm ?_;try simp only [wsN,wsI,rmv,rng,X.ev,lkp,peel,cond_true,cond_false,nbeq,Nat.reduceBEq,Nat.reduceSub,Nat.reduceAdd,Nat.zero_add,Nat.sub_zero,Nat.sub_self,List.length_cons,List.length_nil,List.length_append,List.cons_append,List.nil_append,List.append_nil])|(refine s_take fun K hK => ?_)|(refine s_cons (fun K hK => ?_) ?_)|exact s_tnil|refine s_br ?_|refine s_done ?_|refine s_seq fun K hK => ?_|refine s_region ?_|refine s_draw ?_|refine s_tree ?_|refine s_op fun K hK => ?_|refine s_opq fun K hK => ?_|refine s_ops ?_|refine s_endq ?_|simp only [go_sem,Int.reduceToNat,Int.reduceEq,Nat.reduceAdd,Nat.reduceBEq,Nat.reduceLeDiff,Nat.reduceLT,Int.reduceLT,Int.reduceLE,Int.reduceNeg,reduceCtorEq,Nat.sub_self,Term.v_eq]|(first|(refine hK _ ?_;clear hK K)|(clear hK K;refine hK _ ?_;clear hK K)|(clear hK K;clear hK K;refine hK _ ?_;clear hK K))|refine And.intro ?_ ?_
    · rw [nd88_eq]
      repeat' first|rw [nd87_eq]|rw [nd86_eq]|rw [nd85_eq]|rw [nd84_eq]|(refine N83S ⟨i1,i2,i3,i4,rfl,rfl,rfl,rfl,rfl,fun σ h => mkM_of h (by decide) rfl rfl rfl rfl rfl rfl rfl rfl rfl⟩ (Nat.le_refl _))|first|refine s_opt1 ?_|refine s_opt0 ?_|refine s_optq1 ?_|refine s_optq0 ?_|(refine s_norm ?_;try simp only [wsN,wsI,rmv,rng,X.ev,lkp,peel,cond_true,cond_false,nbeq,Nat.reduceBEq,Nat.reduceSub,Nat.reduceAdd,Nat.zero_add,Nat.sub_zero,Nat.sub_self,List.length_cons,List.length_nil,List.length_append,List.cons_append,List.nil_append,List.append_nil])|(refine s_take fun K hK => ?_)|(refine s_cons (fun K hK => ?_) ?_)|exact s_tnil|refine s_br ?_|refine s_done ?_|refine s_seq fun K hK => ?_|refine s_region ?_|refine s_draw ?_|refine s_tree ?_|refine s_op fun K hK => ?_|refine s_opq fun K hK => ?_|refine s_ops ?_|refine s_endq ?_|simp only [go_sem,Int.reduceToNat,Int.reduceEq,Nat.reduceAdd,Nat.reduceBEq,Nat.reduceLeDiff,Nat.reduceLT,Int.reduceLT,Int.reduceLE,Int.reduceNeg,reduceCtorEq,Nat.sub_self,Term.v_eq]|(first|(refine hK _ ?_;clear hK K)|(clear hK K;refine hK _ ?_;clear hK K)|(clear hK K;clear hK K;refine hK _ ?_;clear hK K))|refine And.intro ?_ ?_
    · rintro ⟨⟨h,p8,p9,p10,p11⟩,h0,h1,h2,h3,g8,g9,g10,g11⟩
      simp only at h0 h1 h2 h3 g8 g9 g10 g11
      simp only [MkM]
      clear i1 i2 i3 i4 hok hbig hl hb
      have q1 : (decide (x.op = 0) = true) ∨ (decide (x.op = 0) = false ∧ okT x = true):=m1.imp (fun h => decide_eq_true h) (fun h => ⟨decide_eq_false h.1,h.2⟩)
      have q2 : (decide (y.op = 0) = true) ∨ (decide (y.op = 0) = false ∧ okT y = true):=m2.imp (fun h => decide_eq_true h) (fun h => ⟨decide_eq_false h.1,h.2⟩)
      have q3 : (decide (z.op = 0) = true) ∨ (decide (z.op = 0) = false ∧ okT z = true):=m3.imp (fun h => decide_eq_true h) (fun h => ⟨decide_eq_false h.1,h.2⟩)
      have q4 : (decide (u.op = 0) = true) ∨ (decide (u.op = 0) = false ∧ okT u = true):=m4.imp (fun h => decide_eq_true h) (fun h => ⟨decide_eq_false h.1,h.2⟩)
      clear m1 m2 m3 m4
      refine s_seq fun K hK => ?_
      refine s_cutE2 (⟨[(8,.ptr p8 0),(9,.ptr p9 0),(10,.ptr p10 0),(11,.ptr p11 0),(60,.d true (.bool false))],h⟩) ?_ ?_
      · repeat' first|first|refine s_opt1 ?_|refine s_opt0 ?_|refine s_optq1 ?_|refine s_optq0 ?_|(refine s_norm ?_;try simp only [wsN,wsI,rmv,rng,X.ev,lkp,peel,cond_true,cond_false,nbeq,Nat.reduceBEq,Nat.reduceSub,Nat.reduceAdd,Nat.zero_add,Nat.sub_zero,Nat.sub_self,List.length_cons,List.length_nil,List.length_append,List.cons_append,List.nil_append,List.append_nil])|(refine s_take fun K hK => ?_)|(refine s_cons (fun K hK => ?_) ?_)|exact s_tnil|refine s_br ?_|refine s_done ?_|refine s_seq fun K hK => ?_|refine s_region ?_|refine s_draw ?_|refine s_tree ?_|refine s_op fun K hK => ?_|refine s_opq fun K hK => ?_|refine s_ops ?_|refine s_endq ?_|simp only [go_sem,Int.reduceToNat,Int.reduceEq,Nat.reduceAdd,Nat.reduceBEq,Nat.reduceLeDiff,Nat.reduceLT,Int.reduceLT,Int.reduceLE,Int.reduceNeg,reduceCtorEq,Nat.sub_self,h0,h1,h2,h3,g8,g9,g10,g11]|(first|(refine hK _ ?_;clear hK K)|(clear hK K;refine hK _ ?_;clear hK K)|(clear hK K;clear hK K;refine hK _ ?_;clear hK K))|refine And.intro ?_ ?_|refine s_callq r1 rfl ?_|refine s_call r1 ?_|refine s_call r2 ?_|refine s_call r3 ?_|refine s_call r4 ?_|refine s_call e1 ?_|refine s_call e2 ?_|refine s_call e3 ?_|refine s_call e4 ?_
        all_goals first|rfl|(simp;done)|skip
      · clear r1 r2 r3 r4 e1 e2 e3 e4
        rcases q1 with d1|⟨d1,k1⟩ <;> rcases q2 with d2|⟨d2,k2⟩ <;> rcases q3 with d3|⟨d3,k3⟩ <;> rcases q4 with d4|⟨d4,k4⟩
        all_goals
          try rw [k1] at o1
          try rw [k2] at o2
          try rw [k3] at o3
          try rw [k4] at o4
          repeat' first|first|refine s_opt1 ?_|refine s_opt0 ?_|refine s_optq1 ?_|refine s_optq0 ?_|(refine s_norm ?_;try simp only [wsN,wsI,rmv,rng,X.ev,lkp,peel,cond_true,cond_false,nbeq,Nat.reduceBEq,Nat.reduceSub,Nat.reduceAdd,Nat.zero_add,Nat.sub_zero,Nat.sub_self,List.length_cons,List.length_nil,List.length_append,List.cons_append,List.nil_append,List.append_nil])|(refine s_take fun K hK => ?_)|(refine s_cons (fun K hK => ?_) ?_)|exact s_tnil|refine s_br ?_|refine s_done ?_|refine s_seq fun K hK => ?_|refine s_region ?_|refine s_draw ?_|refine s_tree ?_|refine s_op fun K hK => ?_|refine s_opq fun K hK => ?_|refine s_ops ?_|refine s_endq ?_|simp only [go_sem,Int.reduceToNat,Int.reduceEq,Nat.reduceAdd,Nat.reduceBEq,Nat.reduceLeDiff,Nat.reduceLT,Int.reduceLT,Int.reduceLE,Int.reduceNeg,reduceCtorEq,d1,d2,d3,d4,g8,g9,g10,g11]|(first|(refine hK _ ?_;clear hK K)|(clear hK K;refine hK _ ?_;clear hK K)|(clear hK K;clear hK K;refine hK _ ?_;clear hK K))|refine And.intro ?_ ?_|refine s_call o1 ?_|refine s_call o2 ?_|refine s_call o3 ?_|refine s_call o4 ?_
          all_goals first|(simp [go_sem,tids,A.tid,A.tid.go,List.cons_append,frzT,St.frz,A.sub,A.subL,O.sub,subT,subH,frzY,frzZ,Post,aret,evRs,RV.ev,tupA,A.Le,A.LeL,lkp,St.frzs,St.frz,A.ids,A.idsL,cond_true,cond_false,nbeq,nble,decide_true,decide_false,Nat.reduceLeDiff,Nat.reduceBEq,Nat.reduceAdd,beq_self_eq_true,true_and,and_true,true_implies,List.append_nil,List.nil_append,List.getElem?_cons_zero,List.getElem?_cons_succ,List.length_cons,List.length_nil,List.drop_zero,List.take_succ_cons,List.take_zero,and_self];done)|trivial|skip
end Go.Proofs.Ytlddcimpdkcgeaa
