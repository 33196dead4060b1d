/- The law. -/
import Derived.Test.YtlddcimpdkcgeaaDoorG11
import Derived.Test.YtlddcimpdkcgeaaDoorF31
import Derived.Test.YtlddcimpdkcgeaaDoorF12
set_option linter.unusedVariables false
set_option linter.unusedSimpArgs false
set_option maxRecDepth 20000
set_option maxHeartbeats 16000000
namespace Go.Proofs.YtlddcimpdkcgeaaDoor
open Go.RowKit Sym Go
attribute [local irreducible] awp aops aopsQ gop gopQ gopO gopOQ gopV gopT awpN awpT awpTs ACall after
theorem big_ct (b : List Int) : Ct Tryd.prog 9 [.d false (.sl (encB b))] (.d true (.bool (decide (1048576 < (b.length : Int))))):=by
  refine ok9.ct mo Tryd.func9 (by simp) rfl fun hok => ?_
  unfold ac9
  repeat' first|assumption|first|refine s_opt1 ?_|refine s_opt0 ?_|refine s_optq1 ?_|refine s_optq0 ?_|(refine s_norm ?_;try simp only [wsN,wsI,rmv,rng,X.ev,lkp,peel,cond_true,cond_false,nbeq,Nat.reduceBEq,Nat.reduceSub,Nat.reduceAdd,Nat.zero_add,Nat.sub_zero,Nat.sub_self,List.length_cons,List.length_nil,List.length_append,List.cons_append,List.nil_append,List.append_nil])|(refine s_take fun K hK => ?_)|(refine s_cons (fun K hK => ?_) ?_)|exact s_tnil|refine s_br ?_|refine s_done ?_|refine s_seq fun K hK => ?_|refine s_region ?_|refine s_draw ?_|refine s_tree ?_|refine s_op fun K hK => ?_|refine s_opq fun K hK => ?_|refine s_ops ?_|refine s_endq ?_|simp only [go_sem,Int.reduceToNat,Int.reduceEq,Nat.reduceAdd,Nat.reduceBEq,Nat.reduceLeDiff,Nat.reduceLT,Int.reduceLT,Int.reduceLE,Int.reduceNeg,reduceCtorEq,encB_length]|(first|(refine hK _ ?_;clear hK K)|(clear hK K;refine hK _ ?_;clear hK K)|(clear hK K;clear hK K;refine hK _ ?_;clear hK K))|refine And.intro ?_ ?_
  all_goals first|(simp [go_sem,tids,A.tid,A.tid.go,List.cons_append,frzT,St.frz,A.sub,A.subL,O.sub,subT,subH,frzY,frzZ,Post,aret,evRs,RV.ev,tupA,A.Le,A.LeL,lkp,St.frzs,St.frz,A.ids,A.idsL,cond_true,cond_false,nbeq,nble,decide_true,decide_false,Nat.reduceLeDiff,Nat.reduceBEq,Nat.reduceAdd,beq_self_eq_true,true_and,and_true,true_implies,List.append_nil,List.nil_append,List.getElem?_cons_zero,List.getElem?_cons_succ,List.length_cons,List.length_nil,List.drop_zero,List.take_succ_cons,List.take_zero,and_self];done)|trivial|skip
theorem law_Seals (b : List Int) : Ct Tryd.prog 5 [.d false (.sl (encB b))] (.d true (.bool true)):=by
  have hbig:=big_ct b
  refine ok5.ct mo Tryd.func5 (by simp) rfl fun hok => ?_
  unfold ac5
  by_cases hl : (1048576 : Int) < b.length
  · rw [decide_eq_true hl] at hbig
    repeat' first|assumption|first|refine s_opt1 ?_|refine s_opt0 ?_|refine s_optq1 ?_|refine s_optq0 ?_|(refine s_norm ?_;try simp only [wsN,wsI,rmv,rng,X.ev,lkp,peel,cond_true,cond_false,nbeq,Nat.reduceBEq,Nat.reduceSub,Nat.reduceAdd,Nat.zero_add,Nat.sub_zero,Nat.sub_self,List.length_cons,List.length_nil,List.length_append,List.cons_append,List.nil_append,List.append_nil])|(refine s_take fun K hK => ?_)|(refine s_cons (fun K hK => ?_) ?_)|exact s_tnil|refine s_br ?_|refine s_done ?_|refine s_seq fun K hK => ?_|refine s_region ?_|refine s_draw ?_|refine s_tree ?_|refine s_op fun K hK => ?_|refine s_opq fun K hK => ?_|refine s_ops ?_|refine s_endq ?_|simp only [go_sem,Int.reduceToNat,Int.reduceEq,Nat.reduceAdd,Nat.reduceBEq,Nat.reduceLeDiff,Nat.reduceLT,Int.reduceLT,Int.reduceLE,Int.reduceNeg,reduceCtorEq]|(first|(refine hK _ ?_;clear hK K)|(clear hK K;refine hK _ ?_;clear hK K)|(clear hK K;clear hK K;refine hK _ ?_;clear hK K))|refine And.intro ?_ ?_|refine s_call hbig ?_
    all_goals first|(simp [go_sem,tids,A.tid,A.tid.go,List.cons_append,frzT,St.frz,A.sub,A.subL,O.sub,subT,subH,frzY,frzZ,Post,aret,evRs,RV.ev,tupA,A.Le,A.LeL,lkp,St.frzs,St.frz,A.ids,A.idsL,cond_true,cond_false,nbeq,nble,decide_true,decide_false,Nat.reduceLeDiff,Nat.reduceBEq,Nat.reduceAdd,beq_self_eq_true,true_and,and_true,true_implies,List.append_nil,List.nil_append,List.getElem?_cons_zero,List.getElem?_cons_succ,List.length_cons,List.length_nil,List.drop_zero,List.take_succ_cons,List.take_zero,and_self];done)|trivial|skip
  · rw [decide_eq_false hl] at hbig
    have hb : b.length ≤ 1048576:=by omega
    repeat' first|assumption|first|refine s_opt1 ?_|refine s_opt0 ?_|refine s_optq1 ?_|refine s_optq0 ?_|(refine s_norm ?_;try simp only [wsN,wsI,rmv,rng,X.ev,lkp,peel,cond_true,cond_false,nbeq,Nat.reduceBEq,Nat.reduceSub,Nat.reduceAdd,Nat.zero_add,Nat.sub_zero,Nat.sub_self,List.length_cons,List.length_nil,List.length_append,List.cons_append,List.nil_append,List.append_nil])|(refine s_take fun K hK => ?_)|(refine s_cons (fun K hK => ?_) ?_)|exact s_tnil|refine s_br ?_|refine s_done ?_|refine s_seq fun K hK => ?_|refine s_region ?_|refine s_draw ?_|refine s_tree ?_|refine s_op fun K hK => ?_|refine s_opq fun K hK => ?_|refine s_ops ?_|refine s_endq ?_|simp only [go_sem,Int.reduceToNat,Int.reduceEq,Nat.reduceAdd,Nat.reduceBEq,Nat.reduceLeDiff,Nat.reduceLT,Int.reduceLT,Int.reduceLE,Int.reduceNeg,reduceCtorEq]|(first|(refine hK _ ?_;clear hK K)|(clear hK K;refine hK _ ?_;clear hK K)|(clear hK K;clear hK K;refine hK _ ?_;clear hK K))|refine And.intro ?_ ?_|refine s_call hbig ?_|refine s_callh [] [] (drawSeal_ct b hb) rfl rfl (by first|trivial|exact ⟨rfl,trivial⟩) (by decide) rfl (by first|trivial|exact ⟨rfl,trivial⟩|simp [allK,mkB,inL]) ?_
    all_goals first|(show ∀ _ _,_ → _;skip)|(simp;done)|skip
    rintro r hs ⟨k,n,c,hk,hc,hn,rfl,rfl⟩
    have i1:=Term.w_v (seal2_ct k n c (by omega) (by omega))
    have r1:=seal1_ct k n c (by omega) (by omega)
    have hsc:=sealT_cnt k c n
    have hop:=fun h => open_seal (k:=k) (b:=c) (n:=n) h hn
    have hwn : wrap64 (n + 1) = n + 1:=w64 (by omega) (by omega)
    have io1:=fun S (h : S.cnt ≤ 10000) => (open2_ct k n S (by omega)).weak (r':=optV (openT k n S)) (by simp [A.Le,A.LeL,Term.v,Term.w])
    have io2:=fun S (h : S.cnt ≤ 10000) => (open2_ct k (n + 1) S (by omega)).weak (r':=optV (openT k (n + 1) S)) (by simp [A.Le,A.LeL,Term.v,Term.w])
    have hsb : (sealT k n c).cnt ≤ 10000:=by omega
    generalize sealT k n c = S at *
    have e1:=same2_ct S S
    have ec:=same2_ct c c
    rw [eqT_refl] at e1 ec
    simp only [Term.v_eq] at i1 r1 e1 ec
    repeat' first|assumption|first|refine s_opt1 ?_|refine s_opt0 ?_|refine s_optq1 ?_|refine s_optq0 ?_|(refine s_norm ?_;try simp only [wsN,wsI,rmv,rng,X.ev,lkp,peel,cond_true,cond_false,nbeq,Nat.reduceBEq,Nat.reduceSub,Nat.reduceAdd,Nat.zero_add,Nat.sub_zero,Nat.sub_self,List.length_cons,List.length_nil,List.length_append,List.cons_append,List.nil_append,List.append_nil])|(refine s_take fun K hK => ?_)|(refine s_cons (fun K hK => ?_) ?_)|exact s_tnil|refine s_br ?_|refine s_done ?_|refine s_seq fun K hK => ?_|refine s_region ?_|refine s_draw ?_|refine s_tree ?_|refine s_op fun K hK => ?_|refine s_opq fun K hK => ?_|refine s_ops ?_|refine s_endq ?_|simp only [go_sem,Int.reduceToNat,Int.reduceEq,Nat.reduceAdd,Nat.reduceBEq,Nat.reduceLeDiff,Nat.reduceLT,Int.reduceLT,Int.reduceLE,Int.reduceNeg,reduceCtorEq]|(first|(refine hK _ ?_;clear hK K)|(clear hK K;refine hK _ ?_;clear hK K)|(clear hK K;clear hK K;refine hK _ ?_;clear hK K))|refine And.intro ?_ ?_|refine s_call i1 ?_|refine s_callh [] [] (drawOpen_ct b hb) rfl rfl (by first|trivial|exact ⟨rfl,trivial⟩) (by decide) rfl (by first|trivial|exact ⟨rfl,trivial⟩|simp [allK,mkB,inL]) ?_
    all_goals first|(show ∀ _ _,_ → _;skip)|(simp;done)|skip
    rintro r hs ⟨x,m,t,hx,ht,hm,rfl,rfl⟩
    have i2:=(open2_ct x m t (by omega)).weak (r':=optV (openT x m t)) (by simp [A.Le,A.LeL,Term.v,Term.w])
    have r2:=open1_ct x m t (by omega)
    have hso:=fun o => seal_open (x:=x) (t:=t) (o:=o) (m:=m) (by omega)
    have hcnt:=openT_cnt x m t
    have hsl : Ct Tryd.prog 17 [x.v,.d false (.int .i64 m),((openT x m t).getD noT).v] (sealT x m ((openT x m t).getD noT)).v:=Term.w_v (seal2_ct x m _ (by omega) (by omega))
    have hfin : (openT x m t).isSome = true → sealT x m ((openT x m t).getD noT) = t:=fun h => by
      cases hh : openT x m t with
      | none => rw [hh] at h;cases h
      | some o => exact hso o hh
    clear hso hcnt
    generalize hoo : (openT x m t).getD noT = o at *
    generalize hbb : (openT x m t).isSome = ob at *
    have e2:=same2_ct o o
    have e3:=same2_ct t t
    rw [eqT_refl] at e2 e3
    rw [show optV (openT x m t) = .tup [o.v,.d true (.bool ob)] by rw [← hoo,← hbb]] at i2 r2
    simp only [Term.v_eq] at i2 r2 e2 e3
    repeat' first|assumption|first|refine s_opt1 ?_|refine s_opt0 ?_|refine s_optq1 ?_|refine s_optq0 ?_|(refine s_norm ?_;try simp only [wsN,wsI,rmv,rng,X.ev,lkp,peel,cond_true,cond_false,nbeq,Nat.reduceBEq,Nat.reduceSub,Nat.reduceAdd,Nat.zero_add,Nat.sub_zero,Nat.sub_self,List.length_cons,List.length_nil,List.length_append,List.cons_append,List.nil_append,List.append_nil])|(refine s_take fun K hK => ?_)|(refine s_cons (fun K hK => ?_) ?_)|exact s_tnil|refine s_br ?_|refine s_done ?_|refine s_seq fun K hK => ?_|refine s_region ?_|refine s_draw ?_|refine s_tree ?_|refine s_op fun K hK => ?_|refine s_opq fun K hK => ?_|refine s_ops ?_|refine s_endq ?_|simp only [go_sem,Int.reduceToNat,Int.reduceEq,Nat.reduceAdd,Nat.reduceBEq,Nat.reduceLeDiff,Nat.reduceLT,Int.reduceLT,Int.reduceLE,Int.reduceNeg,reduceCtorEq]|(first|(refine hK _ ?_;clear hK K)|(clear hK K;refine hK _ ?_;clear hK K)|(clear hK K;clear hK K;refine hK _ ?_;clear hK K))|refine And.intro ?_ ?_|refine s_call i2 ?_|refine s_call r2 ?_|refine s_callh [] [] (drawSigned_ct b hb) rfl rfl (by first|trivial|exact ⟨rfl,trivial⟩) (by decide) rfl (by first|trivial|exact ⟨rfl,trivial⟩|simp [allK,mkB,inL]) ?_
    all_goals first|(show ∀ _ _,_ → _;skip)|(simp;done)|skip
    rintro r hs ⟨p,u,hp,hu,rfl,rfl⟩
    have i3:=(signed2_ct p u (by omega) (by omega)).weak (r':=optV (signedT p u)) (by simp [A.Le,A.LeL,Term.v,Term.w])
    have r3:=signed1_ct p u (by omega)
    rw [show optV (signedT p u) = .tup [((signedT p u).getD noT).v,.d true (.bool (signedT p u).isSome)] from rfl] at i3 r3
    generalize (signedT p u).getD noT = d at *
    generalize (signedT p u).isSome = gd at *
    have e4:=same2_ct d d
    rw [eqT_refl] at e4
    simp only [Term.v_eq] at i3 r3 e4
    repeat' first|assumption|first|refine s_opt1 ?_|refine s_opt0 ?_|refine s_optq1 ?_|refine s_optq0 ?_|(refine s_norm ?_;try simp only [wsN,wsI,rmv,rng,X.ev,lkp,peel,cond_true,cond_false,nbeq,Nat.reduceBEq,Nat.reduceSub,Nat.reduceAdd,Nat.zero_add,Nat.sub_zero,Nat.sub_self,List.length_cons,List.length_nil,List.length_append,List.cons_append,List.nil_append,List.append_nil])|(refine s_take fun K hK => ?_)|(refine s_cons (fun K hK => ?_) ?_)|exact s_tnil|refine s_br ?_|refine s_done ?_|refine s_seq fun K hK => ?_|refine s_region ?_|refine s_draw ?_|refine s_tree ?_|refine s_op fun K hK => ?_|refine s_opq fun K hK => ?_|refine s_ops ?_|refine s_endq ?_|simp only [go_sem,Int.reduceToNat,Int.reduceEq,Nat.reduceAdd,Nat.reduceBEq,Nat.reduceLeDiff,Nat.reduceLT,Int.reduceLT,Int.reduceLE,Int.reduceNeg,reduceCtorEq]|(first|(refine hK _ ?_;clear hK K)|(clear hK K;refine hK _ ?_;clear hK K)|(clear hK K;clear hK K;refine hK _ ?_;clear hK K))|refine And.intro ?_ ?_|refine s_call i3 ?_|refine s_call r3 ?_|refine s_callh [] [] (drawSign_ct b hb) rfl rfl (by first|trivial|exact ⟨rfl,trivial⟩) (by decide) rfl (by first|trivial|exact ⟨rfl,trivial⟩|simp [allK,mkB,inL]) ?_
    all_goals first|(show ∀ _ _,_ → _;skip)|(simp;done)|skip
    rintro r hs ⟨f,g,hf,hg,rfl,rfl⟩
    have i4:=Term.w_v (sign2_ct f g (by omega) (by omega))
    have r4:=sign1_ct f g (by omega) (by omega)
    generalize rightOr (.mk 8 0 ⟨#[]⟩ [f,g]) = w at *
    have e5:=same2_ct w w
    rw [eqT_refl] at e5
    simp only [Term.v_eq] at i4 r4 e5
    repeat' first|assumption|first|refine s_opt1 ?_|refine s_opt0 ?_|refine s_optq1 ?_|refine s_optq0 ?_|(refine s_norm ?_;try simp only [wsN,wsI,rmv,rng,X.ev,lkp,peel,cond_true,cond_false,nbeq,Nat.reduceBEq,Nat.reduceSub,Nat.reduceAdd,Nat.zero_add,Nat.sub_zero,Nat.sub_self,List.length_cons,List.length_nil,List.length_append,List.cons_append,List.nil_append,List.append_nil])|(refine s_take fun K hK => ?_)|(refine s_cons (fun K hK => ?_) ?_)|exact s_tnil|refine s_br ?_|refine s_done ?_|refine s_seq fun K hK => ?_|refine s_region ?_|refine s_draw ?_|refine s_tree ?_|refine s_op fun K hK => ?_|refine s_opq fun K hK => ?_|refine s_ops ?_|refine s_endq ?_|simp only [go_sem,Int.reduceToNat,Int.reduceEq,Nat.reduceAdd,Nat.reduceBEq,Nat.reduceLeDiff,Nat.reduceLT,Int.reduceLT,Int.reduceLE,Int.reduceNeg,reduceCtorEq]|(first|(refine hK _ ?_;clear hK K)|(clear hK K;refine hK _ ?_;clear hK K)|(clear hK K;clear hK K;refine hK _ ?_;clear hK K))|refine And.intro ?_ ?_|refine s_callh [] [] (drawKeyOf_ct b hb) rfl rfl (by first|trivial|exact ⟨rfl,trivial⟩) (by decide) rfl (by first|trivial|exact ⟨rfl,trivial⟩|simp [allK,mkB,inL]) ?_
    all_goals first|(show ∀ _ _,_ → _;skip)|(simp;done)|skip
    rintro r hs ⟨h,i,hh,rfl,rfl⟩
    have i5:=Term.w_v (key2_ct h i (by omega))
    have r5:=key1_ct h i (by omega)
    generalize keyT h i = y at *
    have e6:=same2_ct y y
    rw [eqT_refl] at e6
    simp only [Term.v_eq] at i5 r5 e6
    have j1:=io1 S hsb
    have j2:=io2 S hsb
    clear io1 io2 hsb hsc
    by_cases h7 : S.op = 7
    · have d7 : decide (S.op = 7) = true:=decide_eq_true h7
      obtain ⟨g1,g2⟩:=hop h7
      rw [g1] at j1
      rw [g2] at j2
      have jn:=optV none
      simp only [optV,Option.getD_some,Option.getD_none,Option.isSome_some,Option.isSome_none,Term.v_eq] at j1 j2
      generalize noT = z0 at *
      cases ob with
      | false =>
        repeat' first|first|refine s_opt1 ?_|refine s_opt0 ?_|refine s_optq1 ?_|refine s_optq0 ?_|(refine s_norm ?_;try simp only [wsN,wsI,rmv,rng,X.ev,lkp,peel,cond_true,cond_false,nbeq,Nat.reduceBEq,Nat.reduceSub,Nat.reduceAdd,Nat.zero_add,Nat.sub_zero,Nat.sub_self,List.length_cons,List.length_nil,List.length_append,List.cons_append,List.nil_append,List.append_nil])|(refine s_take fun K hK => ?_)|(refine s_cons (fun K hK => ?_) ?_)|exact s_tnil|refine s_br ?_|refine s_done ?_|refine s_seq fun K hK => ?_|refine s_region ?_|refine s_draw ?_|refine s_tree ?_|refine s_op fun K hK => ?_|refine s_opq fun K hK => ?_|refine s_ops ?_|refine s_endq ?_|simp only [go_sem,Int.reduceToNat,Int.reduceEq,Nat.reduceAdd,Nat.reduceBEq,Nat.reduceLeDiff,Nat.reduceLT,Int.reduceLT,Int.reduceLE,Int.reduceNeg,reduceCtorEq,d7,hwn,bne_self_eq_false,beq_self_eq_true,decide_true,Bool.not_true]|(first|(refine hK _ ?_;clear hK K)|(clear hK K;refine hK _ ?_;clear hK K)|(clear hK K;clear hK K;refine hK _ ?_;clear hK K))|refine And.intro ?_ ?_|refine s_call r1 ?_|refine s_call e1 ?_|refine s_call e2 ?_|refine s_call e4 ?_|refine s_call i4 ?_|refine s_call r4 ?_|refine s_call e5 ?_|refine s_call i5 ?_|refine s_call r5 ?_|refine s_call e6 ?_|refine s_call j1 ?_|refine s_call j2 ?_|refine s_call ec ?_
        all_goals first|(simp [go_sem,tids,A.tid,A.tid.go,List.cons_append,frzT,St.frz,A.sub,A.subL,O.sub,subT,subH,frzY,frzZ,Post,aret,evRs,RV.ev,tupA,A.Le,A.LeL,lkp,St.frzs,St.frz,A.ids,A.idsL,cond_true,cond_false,nbeq,nble,decide_true,decide_false,Nat.reduceLeDiff,Nat.reduceBEq,Nat.reduceAdd,beq_self_eq_true,true_and,and_true,true_implies,List.append_nil,List.nil_append,List.getElem?_cons_zero,List.getElem?_cons_succ,List.length_cons,List.length_nil,List.drop_zero,List.take_succ_cons,List.take_zero,and_self];done)|(simp;done)|skip
      | true =>
        rw [hfin rfl] at hsl
        simp only [Term.v_eq] at hsl
        repeat' first|first|refine s_opt1 ?_|refine s_opt0 ?_|refine s_optq1 ?_|refine s_optq0 ?_|(refine s_norm ?_;try simp only [wsN,wsI,rmv,rng,X.ev,lkp,peel,cond_true,cond_false,nbeq,Nat.reduceBEq,Nat.reduceSub,Nat.reduceAdd,Nat.zero_add,Nat.sub_zero,Nat.sub_self,List.length_cons,List.length_nil,List.length_append,List.cons_append,List.nil_append,List.append_nil])|(refine s_take fun K hK => ?_)|(refine s_cons (fun K hK => ?_) ?_)|exact s_tnil|refine s_br ?_|refine s_done ?_|refine s_seq fun K hK => ?_|refine s_region ?_|refine s_draw ?_|refine s_tree ?_|refine s_op fun K hK => ?_|refine s_opq fun K hK => ?_|refine s_ops ?_|refine s_endq ?_|simp only [go_sem,Int.reduceToNat,Int.reduceEq,Nat.reduceAdd,Nat.reduceBEq,Nat.reduceLeDiff,Nat.reduceLT,Int.reduceLT,Int.reduceLE,Int.reduceNeg,reduceCtorEq,d7,hwn,bne_self_eq_false,beq_self_eq_true,decide_true,Bool.not_true]|(first|(refine hK _ ?_;clear hK K)|(clear hK K;refine hK _ ?_;clear hK K)|(clear hK K;clear hK K;refine hK _ ?_;clear hK K))|refine And.intro ?_ ?_|refine s_call r1 ?_|refine s_call e1 ?_|refine s_call e2 ?_|refine s_call e3 ?_|refine s_call e4 ?_|refine s_call i4 ?_|refine s_call r4 ?_|refine s_call e5 ?_|refine s_call i5 ?_|refine s_call r5 ?_|refine s_call e6 ?_|refine s_call j1 ?_|refine s_call j2 ?_|refine s_call ec ?_|refine s_call hsl ?_
        all_goals first|(simp [go_sem,tids,A.tid,A.tid.go,List.cons_append,frzT,St.frz,A.sub,A.subL,O.sub,subT,subH,frzY,frzZ,Post,aret,evRs,RV.ev,tupA,A.Le,A.LeL,lkp,St.frzs,St.frz,A.ids,A.idsL,cond_true,cond_false,nbeq,nble,decide_true,decide_false,Nat.reduceLeDiff,Nat.reduceBEq,Nat.reduceAdd,beq_self_eq_true,true_and,and_true,true_implies,List.append_nil,List.nil_append,List.getElem?_cons_zero,List.getElem?_cons_succ,List.length_cons,List.length_nil,List.drop_zero,List.take_succ_cons,List.take_zero,and_self];done)|(simp;done)|skip
    · have d7 : decide (S.op = 7) = false:=decide_eq_false h7
      cases ob with
      | false =>
        repeat' first|first|refine s_opt1 ?_|refine s_opt0 ?_|refine s_optq1 ?_|refine s_optq0 ?_|(refine s_norm ?_;try simp only [wsN,wsI,rmv,rng,X.ev,lkp,peel,cond_true,cond_false,nbeq,Nat.reduceBEq,Nat.reduceSub,Nat.reduceAdd,Nat.zero_add,Nat.sub_zero,Nat.sub_self,List.length_cons,List.length_nil,List.length_append,List.cons_append,List.nil_append,List.append_nil])|(refine s_take fun K hK => ?_)|(refine s_cons (fun K hK => ?_) ?_)|exact s_tnil|refine s_br ?_|refine s_done ?_|refine s_seq fun K hK => ?_|refine s_region ?_|refine s_draw ?_|refine s_tree ?_|refine s_op fun K hK => ?_|refine s_opq fun K hK => ?_|refine s_ops ?_|refine s_endq ?_|simp only [go_sem,Int.reduceToNat,Int.reduceEq,Nat.reduceAdd,Nat.reduceBEq,Nat.reduceLeDiff,Nat.reduceLT,Int.reduceLT,Int.reduceLE,Int.reduceNeg,reduceCtorEq,d7,hwn,bne_self_eq_false,beq_self_eq_true,decide_true,Bool.not_true]|(first|(refine hK _ ?_;clear hK K)|(clear hK K;refine hK _ ?_;clear hK K)|(clear hK K;clear hK K;refine hK _ ?_;clear hK K))|refine And.intro ?_ ?_|refine s_call r1 ?_|refine s_call e1 ?_|refine s_call e2 ?_|refine s_call e4 ?_|refine s_call i4 ?_|refine s_call r4 ?_|refine s_call e5 ?_|refine s_call i5 ?_|refine s_call r5 ?_|refine s_call e6 ?_
        all_goals first|(simp [go_sem,tids,A.tid,A.tid.go,List.cons_append,frzT,St.frz,A.sub,A.subL,O.sub,subT,subH,frzY,frzZ,Post,aret,evRs,RV.ev,tupA,A.Le,A.LeL,lkp,St.frzs,St.frz,A.ids,A.idsL,cond_true,cond_false,nbeq,nble,decide_true,decide_false,Nat.reduceLeDiff,Nat.reduceBEq,Nat.reduceAdd,beq_self_eq_true,true_and,and_true,true_implies,List.append_nil,List.nil_append,List.getElem?_cons_zero,List.getElem?_cons_succ,List.length_cons,List.length_nil,List.drop_zero,List.take_succ_cons,List.take_zero,and_self];done)|(simp;done)|skip
      | true =>
        rw [hfin rfl] at hsl
        simp only [Term.v_eq] at hsl
        repeat' first|first|refine s_opt1 ?_|refine s_opt0 ?_|refine s_optq1 ?_|refine s_optq0 ?_|(refine s_norm ?_;try simp only [wsN,wsI,rmv,rng,X.ev,lkp,peel,cond_true,cond_false,nbeq,Nat.reduceBEq,Nat.reduceSub,Nat.reduceAdd,Nat.zero_add,Nat.sub_zero,Nat.sub_self,List.length_cons,List.length_nil,List.length_append,List.cons_append,List.nil_append,List.append_nil])|(refine s_take fun K hK => ?_)|(refine s_cons (fun K hK => ?_) ?_)|exact s_tnil|refine s_br ?_|refine s_done ?_|refine s_seq fun K hK => ?_|refine s_region ?_|refine s_draw ?_|refine s_tree ?_|refine s_op fun K hK => ?_|refine s_opq fun K hK => ?_|refine s_ops ?_|refine s_endq ?_|simp only [go_sem,Int.reduceToNat,Int.reduceEq,Nat.reduceAdd,Nat.reduceBEq,Nat.reduceLeDiff,Nat.reduceLT,Int.reduceLT,Int.reduceLE,Int.reduceNeg,reduceCtorEq,d7,hwn,bne_self_eq_false,beq_self_eq_true,decide_true,Bool.not_true]|(first|(refine hK _ ?_;clear hK K)|(clear hK K;refine hK _ ?_;clear hK K)|(clear hK K;clear hK K;refine hK _ ?_;clear hK K))|refine And.intro ?_ ?_|refine s_call r1 ?_|refine s_call e1 ?_|refine s_call e2 ?_|refine s_call e3 ?_|refine s_call e4 ?_|refine s_call i4 ?_|refine s_call r4 ?_|refine s_call e5 ?_|refine s_call i5 ?_|refine s_call r5 ?_|refine s_call e6 ?_|refine s_call hsl ?_
        all_goals first|(simp [go_sem,tids,A.tid,A.tid.go,List.cons_append,frzT,St.frz,A.sub,A.subL,O.sub,subT,subH,frzY,frzZ,Post,aret,evRs,RV.ev,tupA,A.Le,A.LeL,lkp,St.frzs,St.frz,A.ids,A.idsL,cond_true,cond_false,nbeq,nble,decide_true,decide_false,Nat.reduceLeDiff,Nat.reduceBEq,Nat.reduceAdd,beq_self_eq_true,true_and,and_true,true_implies,List.append_nil,List.nil_append,List.getElem?_cons_zero,List.getElem?_cons_succ,List.length_cons,List.length_nil,List.drop_zero,List.take_succ_cons,List.take_zero,and_self];done)|(simp;done)|skip
end Go.Proofs.YtlddcimpdkcgeaaDoor
