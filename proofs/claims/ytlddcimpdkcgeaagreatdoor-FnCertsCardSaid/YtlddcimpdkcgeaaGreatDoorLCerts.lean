/- The law. -/
import Derived.Test.YtlddcimpdkcgeaaGreatDoorG14
set_option linter.unusedVariables false
set_option linter.unusedSimpArgs false
set_option maxRecDepth 20000
set_option maxHeartbeats 16000000
namespace Go.Proofs.YtlddcimpdkcgeaaGreatDoor
open List (length_cons length_nil cons_append nil_append append_nil getElem?_cons_succ getElem?_cons_zero length_append take_succ_cons take_zero drop_zero)
open Nat (reduceLeDiff reduceAdd reduceLT reduceSub sub_self zero_add sub_zero)
open Int (reduceToNat reduceNeg reduceEq reduceLE)
open Go.RowKit Sym Go
attribute [local irreducible] awp aops aopsQ gop gopQ gopO gopOQ gopV gopT awpN awpT awpTs ACall after
theorem big_ct (b : List Int) : Ct Tryz.prog 18 [.d false (.sl (encB b))] (.d true (.bool (decide (1048576 < (b.length : Int))))):=by
  refine ok18.ct mo Tryz.func18 (by simp) rfl fun hok => ?_
  unfold ac18
  repeat' first|assumption|first|refine s_opt1 ?_|refine s_opt0 ?_|refine s_optq1 ?_|refine s_optq0 ?_|(refine s_norm ?_;try simp only [wsN,wsI,rmv,rng,X.ev,lkp,peel,cond_true,cond_false,nbeq,Nat.reduceBEq,reduceSub,reduceAdd,zero_add,sub_zero,sub_self,length_cons,length_nil,length_append,cons_append,nil_append,append_nil])|(refine s_take fun K hK => ?_)|(refine s_cons (fun K hK => ?_) ?_)|exact s_tnil|refine s_br ?_|refine s_done ?_|refine s_seq fun K hK => ?_|refine s_region ?_|refine s_draw ?_|refine s_tree ?_|refine s_op fun K hK => ?_|refine s_opq fun K hK => ?_|refine s_ops ?_|refine s_endq ?_|simp only [go_sem,reduceToNat,reduceEq,reduceAdd,Nat.reduceBEq,reduceLeDiff,reduceLT,Int.reduceLT,reduceLE,reduceNeg,reduceCtorEq,encB_length]|(first|(refine hK _ ?_;clear hK K)|(clear hK K;refine hK _ ?_;clear hK K)|(clear hK K;clear hK K;refine hK _ ?_;clear hK K))|refine And.intro ?_ ?_
  all_goals first|(simp [go_sem,tids,A.tid,A.tid.go,cons_append,frzT,St.frz,A.sub,A.subL,O.sub,subT,subH,frzY,frzZ,Post,aret,evRs,RV.ev,tupA,A.Le,A.LeL,lkp,St.frzs,A.ids,A.idsL,cond_true,cond_false,nbeq,nble,decide_true,decide_false,reduceLeDiff,Nat.reduceBEq,reduceAdd,beq_self_eq_true,true_and,and_true,true_implies,append_nil,nil_append,getElem?_cons_zero,getElem?_cons_succ,length_cons,length_nil,drop_zero,take_succ_cons,take_zero,and_self];done)|trivial|skip
theorem certOf_cnt {t : Term} {d : Cert} (h : certOfT t = some d) : d.cnt ≤ t.cnt + t.cnt:=by
  unfold certOfT at h
  rcases ho : openC t with _|⟨a,p,u⟩
  · rw [ho] at h;cases h
  · rw [ho] at h
    have:=open_cnt ho
    simp only at h
    cases hb : (certB ⟨a.s,p,numB u.s⟩ && eqT (certT ⟨a.s,p,numB u.s⟩) t) with
    | false => rw [hb] at h;cases h
    | true =>
      rw [hb] at h
      simp only [cond_true,Option.some.injEq] at h
      subst h
      unfold Cert.cnt
      simp only
      omega
theorem law_Certs (b : List Int) : Ct Tryz.prog 5 [.d false (.sl (encB b))] (.d true (.bool true)):=by
  have hbig:=big_ct b
  refine ok5.ct mo Tryz.func5 (by simp) rfl fun hok => ?_
  unfold ac5
  by_cases hl : (1048576 : Int) < b.length
  · rw [decide_eq_true hl] at hbig
    repeat' first|assumption|first|refine s_opt1 ?_|refine s_opt0 ?_|refine s_optq1 ?_|refine s_optq0 ?_|(refine s_norm ?_;try simp only [wsN,wsI,rmv,rng,X.ev,lkp,peel,cond_true,cond_false,nbeq,Nat.reduceBEq,reduceSub,reduceAdd,zero_add,sub_zero,sub_self,length_cons,length_nil,length_append,cons_append,nil_append,append_nil])|(refine s_take fun K hK => ?_)|(refine s_cons (fun K hK => ?_) ?_)|exact s_tnil|refine s_br ?_|refine s_done ?_|refine s_seq fun K hK => ?_|refine s_region ?_|refine s_draw ?_|refine s_tree ?_|refine s_op fun K hK => ?_|refine s_opq fun K hK => ?_|refine s_ops ?_|refine s_endq ?_|simp only [go_sem,reduceToNat,reduceEq,reduceAdd,Nat.reduceBEq,reduceLeDiff,reduceLT,Int.reduceLT,reduceLE,reduceNeg,reduceCtorEq]|(first|(refine hK _ ?_;clear hK K)|(clear hK K;refine hK _ ?_;clear hK K)|(clear hK K;clear hK K;refine hK _ ?_;clear hK K))|refine And.intro ?_ ?_|refine s_call hbig ?_
    all_goals first|(simp [go_sem,tids,A.tid,A.tid.go,cons_append,frzT,St.frz,A.sub,A.subL,O.sub,subT,subH,frzY,frzZ,Post,aret,evRs,RV.ev,tupA,A.Le,A.LeL,lkp,St.frzs,A.ids,A.idsL,cond_true,cond_false,nbeq,nble,decide_true,decide_false,reduceLeDiff,Nat.reduceBEq,reduceAdd,beq_self_eq_true,true_and,and_true,true_implies,append_nil,nil_append,getElem?_cons_zero,getElem?_cons_succ,length_cons,length_nil,drop_zero,take_succ_cons,take_zero,and_self];done)|trivial|skip
  · rw [decide_eq_false hl] at hbig
    have hb : b.length ≤ 1048576:=by omega
    repeat' first|assumption|first|refine s_opt1 ?_|refine s_opt0 ?_|refine s_optq1 ?_|refine s_optq0 ?_|(refine s_norm ?_;try simp only [wsN,wsI,rmv,rng,X.ev,lkp,peel,cond_true,cond_false,nbeq,Nat.reduceBEq,reduceSub,reduceAdd,zero_add,sub_zero,sub_self,length_cons,length_nil,length_append,cons_append,nil_append,append_nil])|(refine s_take fun K hK => ?_)|(refine s_cons (fun K hK => ?_) ?_)|exact s_tnil|refine s_br ?_|refine s_done ?_|refine s_seq fun K hK => ?_|refine s_region ?_|refine s_draw ?_|refine s_tree ?_|refine s_op fun K hK => ?_|refine s_opq fun K hK => ?_|refine s_ops ?_|refine s_endq ?_|simp only [go_sem,reduceToNat,reduceEq,reduceAdd,Nat.reduceBEq,reduceLeDiff,reduceLT,Int.reduceLT,reduceLE,reduceNeg,reduceCtorEq]|(first|(refine hK _ ?_;clear hK K)|(clear hK K;refine hK _ ?_;clear hK K)|(clear hK K;clear hK K;refine hK _ ?_;clear hK K))|refine And.intro ?_ ?_|refine s_call hbig ?_|refine s_callh [] [] (drawCertTerm_ct b hb) rfl rfl (by first|trivial|exact ⟨rfl,trivial⟩) (by decide) rfl (by first|trivial|exact ⟨rfl,trivial⟩|simp [allK,mkB,inL]) ?_
    all_goals first|(show ∀ _ _,_ → _;skip)|(simp;done)|skip
    rintro r hs ⟨c,hc,rfl,rfl⟩
    have hcc:=hc.cnt
    have tcn : (certT c).cnt ≤ 4000:=by have:=certT_cnt c;omega
    have i1:=Term.w_v (certT2_ct c (by omega))
    have r1:=certT1_ct c (by omega)
    have q2:=certOk2_ct c (by omega)
    have htn:=fun h => cert_not (c:=c) h
    have hgd:=fun h => good_three (c:=c) h (by have:=hc.2.2.1;omega) zzB (host_zz hc.1)
    have z1:=(good2_ct (certT c) c.host c.til (by omega)).weak (r':=optV (goodT (certT c) c.host c.til)) (by simp [A.Le,A.LeL,Term.v,Term.w])
    have z2:=(good2_ct (certT c) c.host (c.til + 1) (by omega)).weak (r':=optV (goodT (certT c) c.host (c.til + 1))) (by simp [A.Le,A.LeL,Term.v,Term.w])
    have z3:=(good2_ct (certT c) zzB 0 (by omega)).weak (r':=optV (goodT (certT c) zzB 0)) (by simp [A.Le,A.LeL,Term.v,Term.w])
    have hw : wrap64 (c.til + 1) = c.til + 1:=w64 (by have:=hc.2.2.2;omega) (by have:=hc.2.2.2;omega)
    have sm:=same2_ct (certT c) (certT c)
    rw [eqT_refl] at sm
    generalize certB c = cb at *
    generalize goodT (certT c) c.host c.til = g1 at *
    generalize goodT (certT c) c.host (c.til + 1) = g2 at *
    generalize goodT (certT c) zzB 0 = g3 at *
    generalize certT c = t at *
    simp only [optV,zzB,Term.v_eq,Cert.v_eq] at i1 r1 q2 z1 z2 z3 sm
    repeat' first|assumption|first|refine s_opt1 ?_|refine s_opt0 ?_|refine s_optq1 ?_|refine s_optq0 ?_|(refine s_norm ?_;try simp only [wsN,wsI,rmv,rng,X.ev,lkp,peel,cond_true,cond_false,nbeq,Nat.reduceBEq,reduceSub,reduceAdd,zero_add,sub_zero,sub_self,length_cons,length_nil,length_append,cons_append,nil_append,append_nil])|(refine s_take fun K hK => ?_)|(refine s_cons (fun K hK => ?_) ?_)|exact s_tnil|refine s_br ?_|refine s_done ?_|refine s_seq fun K hK => ?_|refine s_region ?_|refine s_draw ?_|refine s_tree ?_|refine s_op fun K hK => ?_|refine s_opq fun K hK => ?_|refine s_ops ?_|refine s_endq ?_|simp only [go_sem,reduceToNat,reduceEq,reduceAdd,Nat.reduceBEq,reduceLeDiff,reduceLT,Int.reduceLT,reduceLE,reduceNeg,reduceCtorEq,Cert.v_eq]|(first|(refine hK _ ?_;clear hK K)|(clear hK K;refine hK _ ?_;clear hK K)|(clear hK K;clear hK K;refine hK _ ?_;clear hK K))|refine And.intro ?_ ?_|refine s_call i1 ?_|refine s_callh [] [] (drawCertOf_ct b hb) rfl rfl (by first|trivial|exact ⟨rfl,trivial⟩) (by decide) rfl (by first|trivial|exact ⟨rfl,trivial⟩|simp [allK,mkB,inL]) ?_
    all_goals first|(show ∀ _ _,_ → _;skip)|(simp;done)|skip
    rintro r hs ⟨x,hx,rfl,rfl⟩
    have i2:=(certOf2_ct x (by omega)).weak (r':=optCV (certOfT x)) (by simp [A.Le,A.LeL,Cert.v,Cert.w])
    have r2:=certOf1_ct x (by omega)
    have hdd : (certOfT x).isSome = true → Ct Tryz.prog 20 [((certOfT x).getD noC).v] x.v:=fun h => by
      rcases hh : certOfT x with _|d
      · rw [hh] at h;cases h
      · have h1:=Term.w_v (certT2_ct d (by have:=certOf_cnt hh;omega))
        rw [cert_back hh] at h1
        exact h1
    have sx:=same2_ct x x
    rw [eqT_refl] at sx
    rw [show optCV (certOfT x) = .tup [((certOfT x).getD noC).v,.d true (.bool (certOfT x).isSome)] from rfl] at i2 r2
    generalize (certOfT x).getD noC = d at *
    generalize (certOfT x).isSome = ob at *
    simp only [Term.v_eq,Cert.v_eq] at i2 r2 hdd sx
    repeat' first|assumption|first|refine s_opt1 ?_|refine s_opt0 ?_|refine s_optq1 ?_|refine s_optq0 ?_|(refine s_norm ?_;try simp only [wsN,wsI,rmv,rng,X.ev,lkp,peel,cond_true,cond_false,nbeq,Nat.reduceBEq,reduceSub,reduceAdd,zero_add,sub_zero,sub_self,length_cons,length_nil,length_append,cons_append,nil_append,append_nil])|(refine s_take fun K hK => ?_)|(refine s_cons (fun K hK => ?_) ?_)|exact s_tnil|refine s_br ?_|refine s_done ?_|refine s_seq fun K hK => ?_|refine s_region ?_|refine s_draw ?_|refine s_tree ?_|refine s_op fun K hK => ?_|refine s_opq fun K hK => ?_|refine s_ops ?_|refine s_endq ?_|simp only [go_sem,reduceToNat,reduceEq,reduceAdd,Nat.reduceBEq,reduceLeDiff,reduceLT,Int.reduceLT,reduceLE,reduceNeg,reduceCtorEq,Term.v_eq]|(first|(refine hK _ ?_;clear hK K)|(clear hK K;refine hK _ ?_;clear hK K)|(clear hK K;clear hK K;refine hK _ ?_;clear hK K))|refine And.intro ?_ ?_|refine s_call i2 ?_|refine s_call r2 ?_|refine s_callh [] [] (drawCertGood_ct b hb) rfl rfl (by first|trivial|exact ⟨rfl,trivial⟩) (by decide) rfl (by first|trivial|exact ⟨rfl,trivial⟩|simp [allK,mkB,inL]) ?_
    all_goals first|(show ∀ _ _,_ → _;skip)|(simp;done)|skip
    rintro r hs ⟨y,hst,nw,hy,rfl,rfl⟩
    have i3:=(good2_ct y hst nw (by omega)).weak (r':=optV (goodT y hst nw)) (by simp [A.Le,A.LeL,Term.v,Term.w])
    have r3:=good1_ct y hst nw (by omega)
    rw [show optV (goodT y hst nw) = .tup [((goodT y hst nw).getD noT).v,.d true (.bool (goodT y hst nw).isSome)] from rfl] at i3 r3
    generalize (goodT y hst nw).getD noT = p at *
    generalize (goodT y hst nw).isSome = gb at *
    have sp:=same2_ct p p
    rw [eqT_refl] at sp
    simp only [Term.v_eq] at i3 r3 sp
    repeat' first|assumption|first|refine s_opt1 ?_|refine s_opt0 ?_|refine s_optq1 ?_|refine s_optq0 ?_|(refine s_norm ?_;try simp only [wsN,wsI,rmv,rng,X.ev,lkp,peel,cond_true,cond_false,nbeq,Nat.reduceBEq,reduceSub,reduceAdd,zero_add,sub_zero,sub_self,length_cons,length_nil,length_append,cons_append,nil_append,append_nil])|(refine s_take fun K hK => ?_)|(refine s_cons (fun K hK => ?_) ?_)|exact s_tnil|refine s_br ?_|refine s_done ?_|refine s_seq fun K hK => ?_|refine s_region ?_|refine s_draw ?_|refine s_tree ?_|refine s_op fun K hK => ?_|refine s_opq fun K hK => ?_|refine s_ops ?_|refine s_endq ?_|simp only [go_sem,reduceToNat,reduceEq,reduceAdd,Nat.reduceBEq,reduceLeDiff,reduceLT,Int.reduceLT,reduceLE,reduceNeg,reduceCtorEq,Term.v_eq]|(first|(refine hK _ ?_;clear hK K)|(clear hK K;refine hK _ ?_;clear hK K)|(clear hK K;clear hK K;refine hK _ ?_;clear hK K))|refine And.intro ?_ ?_|refine s_call i3 ?_|refine s_call r3 ?_|refine s_callh [] [] (drawCertOk_ct b hb) rfl rfl (by first|trivial|exact ⟨rfl,trivial⟩) (by decide) rfl (by first|trivial|exact ⟨rfl,trivial⟩|simp [allK,mkB,inL]) ?_
    all_goals first|(show ∀ _ _,_ → _;skip)|(simp;done)|skip
    rintro r hs ⟨k,hk,rfl,rfl⟩
    have hkc:=hk.cnt
    have i4:=certOk2_ct k (by omega)
    have r4:=certOk1_ct k (by omega)
    generalize certB k = kb at *
    simp only [Cert.v_eq] at i4 r4
    clear hbig hb hl hok
    cases ob with
    | false =>
      cases cb with
      | false =>
        have ht:=htn rfl
        subst ht
        simp only [noT,op_mk,n_mk,s_mk,kids_mk,encs] at i1 r1 sm ⊢
        repeat' first|first|refine s_opt1 ?_|refine s_opt0 ?_|refine s_optq1 ?_|refine s_optq0 ?_|(refine s_norm ?_;try simp only [wsN,wsI,rmv,rng,X.ev,lkp,peel,cond_true,cond_false,nbeq,Nat.reduceBEq,reduceSub,reduceAdd,zero_add,sub_zero,sub_self,length_cons,length_nil,length_append,cons_append,nil_append,append_nil])|(refine s_take fun K hK => ?_)|(refine s_cons (fun K hK => ?_) ?_)|exact s_tnil|refine s_br ?_|refine s_done ?_|refine s_seq fun K hK => ?_|refine s_region ?_|refine s_draw ?_|refine s_tree ?_|refine s_op fun K hK => ?_|refine s_opq fun K hK => ?_|refine s_ops ?_|refine s_endq ?_|simp only [go_sem,reduceToNat,reduceEq,reduceAdd,Nat.reduceBEq,reduceLeDiff,reduceLT,Int.reduceLT,reduceLE,reduceNeg,reduceCtorEq,Cert.v_eq,bne_self_eq_false,beq_self_eq_true,decide_true,Bool.not_true]|(first|(refine hK _ ?_;clear hK K)|(clear hK K;refine hK _ ?_;clear hK K)|(clear hK K;clear hK K;refine hK _ ?_;clear hK K))|refine And.intro ?_ ?_|refine s_call r1 ?_|refine s_call sm ?_|refine s_call sp ?_|refine s_call i4 ?_|refine s_call r4 ?_|refine s_call q2 ?_
        all_goals first|(simp [go_sem,tids,A.tid,A.tid.go,cons_append,frzT,St.frz,A.sub,A.subL,O.sub,subT,subH,frzY,frzZ,Post,aret,evRs,RV.ev,tupA,A.Le,A.LeL,lkp,St.frzs,A.ids,A.idsL,cond_true,cond_false,nbeq,nble,decide_true,decide_false,reduceLeDiff,Nat.reduceBEq,reduceAdd,beq_self_eq_true,true_and,and_true,true_implies,append_nil,nil_append,getElem?_cons_zero,getElem?_cons_succ,length_cons,length_nil,drop_zero,take_succ_cons,take_zero,and_self];done)|(simp;done)|skip
      | true =>
        obtain ⟨e1,e2,e3⟩:=hgd rfl
        rw [e1] at z1
        rw [e2] at z2
        rw [e3] at z3
        repeat' first|first|refine s_opt1 ?_|refine s_opt0 ?_|refine s_optq1 ?_|refine s_optq0 ?_|(refine s_norm ?_;try simp only [wsN,wsI,rmv,rng,X.ev,lkp,peel,cond_true,cond_false,nbeq,Nat.reduceBEq,reduceSub,reduceAdd,zero_add,sub_zero,sub_self,length_cons,length_nil,length_append,cons_append,nil_append,append_nil])|(refine s_take fun K hK => ?_)|(refine s_cons (fun K hK => ?_) ?_)|exact s_tnil|refine s_br ?_|refine s_done ?_|refine s_seq fun K hK => ?_|refine s_region ?_|refine s_draw ?_|refine s_tree ?_|refine s_op fun K hK => ?_|refine s_opq fun K hK => ?_|refine s_ops ?_|refine s_endq ?_|simp only [go_sem,reduceToNat,reduceEq,reduceAdd,Nat.reduceBEq,reduceLeDiff,reduceLT,Int.reduceLT,reduceLE,reduceNeg,reduceCtorEq,Cert.v_eq,hw,bne_self_eq_false,beq_self_eq_true,decide_true,Bool.not_true]|(first|(refine hK _ ?_;clear hK K)|(clear hK K;refine hK _ ?_;clear hK K)|(clear hK K;clear hK K;refine hK _ ?_;clear hK K))|refine And.intro ?_ ?_|refine s_call r1 ?_|refine s_call sm ?_|refine s_call sp ?_|refine s_call i4 ?_|refine s_call r4 ?_|refine s_call q2 ?_|refine s_call z1 ?_|refine s_call z2 ?_|refine s_call z3 ?_
        all_goals first|(simp [go_sem,tids,A.tid,A.tid.go,cons_append,frzT,St.frz,A.sub,A.subL,O.sub,subT,subH,frzY,frzZ,Post,aret,evRs,RV.ev,tupA,A.Le,A.LeL,lkp,St.frzs,A.ids,A.idsL,cond_true,cond_false,nbeq,nble,decide_true,decide_false,reduceLeDiff,Nat.reduceBEq,reduceAdd,beq_self_eq_true,true_and,and_true,true_implies,append_nil,nil_append,getElem?_cons_zero,getElem?_cons_succ,length_cons,length_nil,drop_zero,take_succ_cons,take_zero,and_self];done)|(simp;done)|skip
    | true =>
      have hde:=hdd rfl
      cases cb with
      | false =>
        have ht:=htn rfl
        subst ht
        simp only [noT,op_mk,n_mk,s_mk,kids_mk,encs] at i1 r1 sm ⊢
        repeat' first|first|refine s_opt1 ?_|refine s_opt0 ?_|refine s_optq1 ?_|refine s_optq0 ?_|(refine s_norm ?_;try simp only [wsN,wsI,rmv,rng,X.ev,lkp,peel,cond_true,cond_false,nbeq,Nat.reduceBEq,reduceSub,reduceAdd,zero_add,sub_zero,sub_self,length_cons,length_nil,length_append,cons_append,nil_append,append_nil])|(refine s_take fun K hK => ?_)|(refine s_cons (fun K hK => ?_) ?_)|exact s_tnil|refine s_br ?_|refine s_done ?_|refine s_seq fun K hK => ?_|refine s_region ?_|refine s_draw ?_|refine s_tree ?_|refine s_op fun K hK => ?_|refine s_opq fun K hK => ?_|refine s_ops ?_|refine s_endq ?_|simp only [go_sem,reduceToNat,reduceEq,reduceAdd,Nat.reduceBEq,reduceLeDiff,reduceLT,Int.reduceLT,reduceLE,reduceNeg,reduceCtorEq,Cert.v_eq,bne_self_eq_false,beq_self_eq_true,decide_true,Bool.not_true]|(first|(refine hK _ ?_;clear hK K)|(clear hK K;refine hK _ ?_;clear hK K)|(clear hK K;clear hK K;refine hK _ ?_;clear hK K))|refine And.intro ?_ ?_|refine s_call r1 ?_|refine s_call sm ?_|refine s_call sp ?_|refine s_call i4 ?_|refine s_call r4 ?_|refine s_call q2 ?_|refine s_call hde ?_|refine s_call sx ?_
        all_goals first|(simp [go_sem,tids,A.tid,A.tid.go,cons_append,frzT,St.frz,A.sub,A.subL,O.sub,subT,subH,frzY,frzZ,Post,aret,evRs,RV.ev,tupA,A.Le,A.LeL,lkp,St.frzs,A.ids,A.idsL,cond_true,cond_false,nbeq,nble,decide_true,decide_false,reduceLeDiff,Nat.reduceBEq,reduceAdd,beq_self_eq_true,true_and,and_true,true_implies,append_nil,nil_append,getElem?_cons_zero,getElem?_cons_succ,length_cons,length_nil,drop_zero,take_succ_cons,take_zero,and_self];done)|(simp;done)|skip
      | true =>
        obtain ⟨e1,e2,e3⟩:=hgd rfl
        rw [e1] at z1
        rw [e2] at z2
        rw [e3] at z3
        repeat' first|first|refine s_opt1 ?_|refine s_opt0 ?_|refine s_optq1 ?_|refine s_optq0 ?_|(refine s_norm ?_;try simp only [wsN,wsI,rmv,rng,X.ev,lkp,peel,cond_true,cond_false,nbeq,Nat.reduceBEq,reduceSub,reduceAdd,zero_add,sub_zero,sub_self,length_cons,length_nil,length_append,cons_append,nil_append,append_nil])|(refine s_take fun K hK => ?_)|(refine s_cons (fun K hK => ?_) ?_)|exact s_tnil|refine s_br ?_|refine s_done ?_|refine s_seq fun K hK => ?_|refine s_region ?_|refine s_draw ?_|refine s_tree ?_|refine s_op fun K hK => ?_|refine s_opq fun K hK => ?_|refine s_ops ?_|refine s_endq ?_|simp only [go_sem,reduceToNat,reduceEq,reduceAdd,Nat.reduceBEq,reduceLeDiff,reduceLT,Int.reduceLT,reduceLE,reduceNeg,reduceCtorEq,Cert.v_eq,hw,bne_self_eq_false,beq_self_eq_true,decide_true,Bool.not_true]|(first|(refine hK _ ?_;clear hK K)|(clear hK K;refine hK _ ?_;clear hK K)|(clear hK K;clear hK K;refine hK _ ?_;clear hK K))|refine And.intro ?_ ?_|refine s_call r1 ?_|refine s_call sm ?_|refine s_call sp ?_|refine s_call i4 ?_|refine s_call r4 ?_|refine s_call q2 ?_|refine s_call z1 ?_|refine s_call z2 ?_|refine s_call z3 ?_|refine s_call hde ?_|refine s_call sx ?_
        all_goals first|(simp [go_sem,tids,A.tid,A.tid.go,cons_append,frzT,St.frz,A.sub,A.subL,O.sub,subT,subH,frzY,frzZ,Post,aret,evRs,RV.ev,tupA,A.Le,A.LeL,lkp,St.frzs,A.ids,A.idsL,cond_true,cond_false,nbeq,nble,decide_true,decide_false,reduceLeDiff,Nat.reduceBEq,reduceAdd,beq_self_eq_true,true_and,and_true,true_implies,append_nil,nil_append,getElem?_cons_zero,getElem?_cons_succ,length_cons,length_nil,drop_zero,take_succ_cons,take_zero,and_self];done)|(simp;done)|skip
end Go.Proofs.YtlddcimpdkcgeaaGreatDoor
