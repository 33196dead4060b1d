/- What is signed: the program. -/
import Derived.Test.YtlddcimpdkcgeaaGreatDoorF11
set_option linter.unusedVariables false
set_option linter.unusedSimpArgs false
set_option maxRecDepth 20000
set_option maxHeartbeats 4000000
namespace Go.Proofs.YtlddcimpdkcgeaaGreatDoor
open List (length_cons length_nil cons_append nil_append append_nil getElem?_cons_succ getElem?_cons_zero length_append take_succ_cons take_zero drop_zero)
open Nat (reduceLeDiff reduceAdd reduceLT reduceSub sub_self zero_add sub_zero)
open Int (reduceToNat reduceNeg reduceEq reduceLE)
open Go.RowKit Sym
attribute [local irreducible] awp aops aopsQ gop gopQ gopO gopOQ gopV gopT awpN awpT awpTs ACall after
theorem signed2_ct (p t : Term) (ht : t.cnt ≤ 4194000) (hpc : p.cnt ≤ 4194000) : Ct Tryz.prog 38 [p.v,t.v] (optW (signedT p t)):=by
  have hcp0:=termOk2_ct p
  have hct0:=termOk2_ct t
  -- the ways that answer none
  have none_of : (p.op ≠ 4 ∨ okT p = false ∨ t.op ≠ 8 ∨ okT t = false) → signedT p t = none:=by
    intro h
    unfold signedT
    split
    · rename_i x y hk
      rw [if_neg]
      rintro ⟨g1,g2,g3⟩
      have:=(eqT_iff _ _).1 g3
      subst this
      rcases h with h|h|h|h
      · exact h rfl
      · have hx:=right_mem (ok_right g1) (x:=x) (by rw [hk];simp)
        have hs:=ok_size g1
        rw [size_of (by omega),Term.nods_eq,hk] at hs
        simp only [nodsL] at hs
        have:=nods_pos y
        rw [pub_ok hx (by omega)] at h
        cases h
      · exact h g2
      · rw [g1] at h;cases h
    · rfl
  by_cases h4 : p.op = 4
  · cases h1 : okT p with
    | true =>
      by_cases h8 : t.op = 8
      · cases h2 : okT t with
        | true =>
          obtain ⟨z,rfl⟩:=pub_inv h1 h4
          obtain ⟨x,y,hk⟩:=two_kids (ok_right h2) (by rw [h8];rfl)
          have hy : y ∈ t.kids:=by rw [hk];simp
          have hs : signedT (.mk 4 0 ⟨#[]⟩ [z]) t = bif eqT x z then some y else none:=by
            unfold signedT
            rw [hk]
            by_cases hxz : x = z
            · subst hxz;simp [(eqT_iff (.mk 4 0 ⟨#[]⟩ [x]) (.mk 4 0 ⟨#[]⟩ [x])).2 rfl,(eqT_iff x x).2 rfl,h2,h8]
            · cases he : eqT x z with
              | true => exact absurd ((eqT_iff _ _).1 he) hxz
              | false =>
                have : eqT (.mk 4 0 ⟨#[]⟩ [z]) (.mk 4 0 ⟨#[]⟩ [x]) = false:=by
                  cases hz : eqT (.mk 4 0 ⟨#[]⟩ [z]) (.mk 4 0 ⟨#[]⟩ [x]) with
                  | false => rfl
                  | true => exact absurd ((eqT_iff _ _).1 hz) (fun e => hxz (by simp at e;exact e.symm))
                simp [this]
          rw [hs]
          have hq:=same2_ct x z
          have hcp:=clone_own y (by have:=cnt_mem hy;omega)
          have hd : decide (t.op = 8) = true:=decide_eq_true h8
          rw [h1] at hcp0
          rw [h2] at hct0
          refine ok38.ct mo Tryz.func38 (by simp) rfl fun hok => ?_
          unfold ac38
          cases he : eqT x z with
          | true =>
            rw [he] at hq
            simp only [optW,cond_true,Option.getD_some,Option.isSome_some,Term.v_eq,op_mk,n_mk,s_mk,kids_mk,hk,encs,Term.enc_eq] at *
            repeat' first|assumption|first|refine s_opt1 ?_|refine s_opt0 ?_|refine s_optq1 ?_|refine s_optq0 ?_|(refine s_norm ?_;try simp only [wsN,wsI,rmv,rng,X.ev,lkp,peel,cond_true,cond_false,nbeq,Nat.reduceBEq,reduceSub,reduceAdd,zero_add,sub_zero,sub_self,length_cons,length_nil,length_append,cons_append,nil_append,append_nil])|(refine s_take fun K hK => ?_)|(refine s_cons (fun K hK => ?_) ?_)|exact s_tnil|refine s_br ?_|refine s_done ?_|refine s_seq fun K hK => ?_|refine s_region ?_|refine s_draw ?_|refine s_tree ?_|refine s_op fun K hK => ?_|refine s_opq fun K hK => ?_|refine s_ops ?_|refine s_endq ?_|simp only [go_sem,reduceToNat,reduceEq,reduceAdd,Nat.reduceBEq,reduceLeDiff,reduceLT,Int.reduceLT,reduceLE,reduceNeg,reduceCtorEq,hd,hk,encs,Term.enc_eq,List.getD_cons_zero]|(first|(refine hK _ ?_;clear hK K)|(clear hK K;refine hK _ ?_;clear hK K)|(clear hK K;clear hK K;refine hK _ ?_;clear hK K))|refine And.intro ?_ ?_|refine s_callq hcp0 rfl ?_|refine s_callq hct0 rfl ?_|refine s_callq hq rfl ?_|refine s_call hcp ?_
            all_goals first|(simp [go_sem,tids,A.tid,A.tid.go,cons_append,frzT,St.frz,A.sub,A.subL,O.sub,subT,subH,frzY,frzZ,Post,aret,evRs,RV.ev,tupA,A.Le,A.LeL,lkp,St.frzs,A.ids,A.idsL,cond_true,cond_false,nbeq,nble,decide_true,decide_false,reduceLeDiff,Nat.reduceBEq,reduceAdd,beq_self_eq_true,true_and,and_true,true_implies,append_nil,nil_append,getElem?_cons_zero,getElem?_cons_succ,length_cons,length_nil,drop_zero,take_succ_cons,take_zero,and_self];done)|(simp [A.LeL];done)|rfl|(simp [op_mk,n_mk,s_mk,kids_mk,encs,A.Le,A.LeL];done)|skip
          | false =>
            rw [he] at hq
            simp only [optW,cond_false,Option.getD_none,Option.isSome_none,noT,Term.v_eq,op_mk,n_mk,s_mk,kids_mk,hk,encs,Term.enc_eq] at *
            repeat' first|assumption|first|refine s_opt1 ?_|refine s_opt0 ?_|refine s_optq1 ?_|refine s_optq0 ?_|(refine s_norm ?_;try simp only [wsN,wsI,rmv,rng,X.ev,lkp,peel,cond_true,cond_false,nbeq,Nat.reduceBEq,reduceSub,reduceAdd,zero_add,sub_zero,sub_self,length_cons,length_nil,length_append,cons_append,nil_append,append_nil])|(refine s_take fun K hK => ?_)|(refine s_cons (fun K hK => ?_) ?_)|exact s_tnil|refine s_br ?_|refine s_done ?_|refine s_seq fun K hK => ?_|refine s_region ?_|refine s_draw ?_|refine s_tree ?_|refine s_op fun K hK => ?_|refine s_opq fun K hK => ?_|refine s_ops ?_|refine s_endq ?_|simp only [go_sem,reduceToNat,reduceEq,reduceAdd,Nat.reduceBEq,reduceLeDiff,reduceLT,Int.reduceLT,reduceLE,reduceNeg,reduceCtorEq,hd,hk,encs,Term.enc_eq,List.getD_cons_zero]|(first|(refine hK _ ?_;clear hK K)|(clear hK K;refine hK _ ?_;clear hK K)|(clear hK K;clear hK K;refine hK _ ?_;clear hK K))|refine And.intro ?_ ?_|refine s_callq hcp0 rfl ?_|refine s_callq hct0 rfl ?_|refine s_callq hq rfl ?_
            all_goals first|(simp [go_sem,tids,A.tid,A.tid.go,cons_append,frzT,St.frz,A.sub,A.subL,O.sub,subT,subH,frzY,frzZ,Post,aret,evRs,RV.ev,tupA,A.Le,A.LeL,lkp,St.frzs,A.ids,A.idsL,cond_true,cond_false,nbeq,nble,decide_true,decide_false,reduceLeDiff,Nat.reduceBEq,reduceAdd,beq_self_eq_true,true_and,and_true,true_implies,append_nil,nil_append,getElem?_cons_zero,getElem?_cons_succ,length_cons,length_nil,drop_zero,take_succ_cons,take_zero,and_self];done)|(simp [A.LeL];done)|rfl|(simp [op_mk,n_mk,s_mk,kids_mk,encs,A.Le,A.LeL];done)|skip
        | false =>
          rw [none_of (.inr (.inr (.inr h2)))]
          rw [h1] at hcp0
          rw [h2] at hct0
          have hd4 : decide (p.op = 4) = true:=decide_eq_true h4
          have hd : decide (t.op = 8) = true:=decide_eq_true h8
          refine ok38.ct mo Tryz.func38 (by simp) rfl fun hok => ?_
          unfold ac38
          simp only [optW,Option.getD_none,Option.isSome_none,noT,Term.v_eq,op_mk,n_mk,s_mk,kids_mk,encs] at *
          repeat' first|assumption|first|refine s_opt1 ?_|refine s_opt0 ?_|refine s_optq1 ?_|refine s_optq0 ?_|(refine s_norm ?_;try simp only [wsN,wsI,rmv,rng,X.ev,lkp,peel,cond_true,cond_false,nbeq,Nat.reduceBEq,reduceSub,reduceAdd,zero_add,sub_zero,sub_self,length_cons,length_nil,length_append,cons_append,nil_append,append_nil])|(refine s_take fun K hK => ?_)|(refine s_cons (fun K hK => ?_) ?_)|exact s_tnil|refine s_br ?_|refine s_done ?_|refine s_seq fun K hK => ?_|refine s_region ?_|refine s_draw ?_|refine s_tree ?_|refine s_op fun K hK => ?_|refine s_opq fun K hK => ?_|refine s_ops ?_|refine s_endq ?_|simp only [go_sem,reduceToNat,reduceEq,reduceAdd,Nat.reduceBEq,reduceLeDiff,reduceLT,Int.reduceLT,reduceLE,reduceNeg,reduceCtorEq,hd,hd4]|(first|(refine hK _ ?_;clear hK K)|(clear hK K;refine hK _ ?_;clear hK K)|(clear hK K;clear hK K;refine hK _ ?_;clear hK K))|refine And.intro ?_ ?_|refine s_callq hcp0 rfl ?_|refine s_callq hct0 rfl ?_
          all_goals first|(simp [go_sem,tids,A.tid,A.tid.go,cons_append,frzT,St.frz,A.sub,A.subL,O.sub,subT,subH,frzY,frzZ,Post,aret,evRs,RV.ev,tupA,A.Le,A.LeL,lkp,St.frzs,A.ids,A.idsL,cond_true,cond_false,nbeq,nble,decide_true,decide_false,reduceLeDiff,Nat.reduceBEq,reduceAdd,beq_self_eq_true,true_and,and_true,true_implies,append_nil,nil_append,getElem?_cons_zero,getElem?_cons_succ,length_cons,length_nil,drop_zero,take_succ_cons,take_zero,and_self];done)|(simp [A.LeL];done)|rfl|(simp [op_mk,n_mk,s_mk,kids_mk,encs,A.Le,A.LeL];done)|skip
      · rw [none_of (.inr (.inr (.inl h8)))]
        rw [h1] at hcp0
        have hd4 : decide (p.op = 4) = true:=decide_eq_true h4
        have hd : decide (t.op = 8) = false:=decide_eq_false h8
        refine ok38.ct mo Tryz.func38 (by simp) rfl fun hok => ?_
        unfold ac38
        simp only [optW,Option.getD_none,Option.isSome_none,noT,Term.v_eq,op_mk,n_mk,s_mk,kids_mk,encs] at *
        repeat' first|assumption|first|refine s_opt1 ?_|refine s_opt0 ?_|refine s_optq1 ?_|refine s_optq0 ?_|(refine s_norm ?_;try simp only [wsN,wsI,rmv,rng,X.ev,lkp,peel,cond_true,cond_false,nbeq,Nat.reduceBEq,reduceSub,reduceAdd,zero_add,sub_zero,sub_self,length_cons,length_nil,length_append,cons_append,nil_append,append_nil])|(refine s_take fun K hK => ?_)|(refine s_cons (fun K hK => ?_) ?_)|exact s_tnil|refine s_br ?_|refine s_done ?_|refine s_seq fun K hK => ?_|refine s_region ?_|refine s_draw ?_|refine s_tree ?_|refine s_op fun K hK => ?_|refine s_opq fun K hK => ?_|refine s_ops ?_|refine s_endq ?_|simp only [go_sem,reduceToNat,reduceEq,reduceAdd,Nat.reduceBEq,reduceLeDiff,reduceLT,Int.reduceLT,reduceLE,reduceNeg,reduceCtorEq,hd,hd4]|(first|(refine hK _ ?_;clear hK K)|(clear hK K;refine hK _ ?_;clear hK K)|(clear hK K;clear hK K;refine hK _ ?_;clear hK K))|refine And.intro ?_ ?_|refine s_callq hcp0 rfl ?_
        all_goals first|(simp [go_sem,tids,A.tid,A.tid.go,cons_append,frzT,St.frz,A.sub,A.subL,O.sub,subT,subH,frzY,frzZ,Post,aret,evRs,RV.ev,tupA,A.Le,A.LeL,lkp,St.frzs,A.ids,A.idsL,cond_true,cond_false,nbeq,nble,decide_true,decide_false,reduceLeDiff,Nat.reduceBEq,reduceAdd,beq_self_eq_true,true_and,and_true,true_implies,append_nil,nil_append,getElem?_cons_zero,getElem?_cons_succ,length_cons,length_nil,drop_zero,take_succ_cons,take_zero,and_self];done)|(simp [A.LeL];done)|rfl|(simp [op_mk,n_mk,s_mk,kids_mk,encs,A.Le,A.LeL];done)|skip
    | false =>
      rw [none_of (.inr (.inl h1))]
      rw [h1] at hcp0
      have hd4 : decide (p.op = 4) = true:=decide_eq_true h4
      refine ok38.ct mo Tryz.func38 (by simp) rfl fun hok => ?_
      unfold ac38
      simp only [optW,Option.getD_none,Option.isSome_none,noT,Term.v_eq,op_mk,n_mk,s_mk,kids_mk,encs] at *
      repeat' first|first|refine s_opt1 ?_|refine s_opt0 ?_|refine s_optq1 ?_|refine s_optq0 ?_|(refine s_norm ?_;try simp only [wsN,wsI,rmv,rng,X.ev,lkp,peel,cond_true,cond_false,nbeq,Nat.reduceBEq,reduceSub,reduceAdd,zero_add,sub_zero,sub_self,length_cons,length_nil,length_append,cons_append,nil_append,append_nil])|(refine s_take fun K hK => ?_)|(refine s_cons (fun K hK => ?_) ?_)|exact s_tnil|refine s_br ?_|refine s_done ?_|refine s_seq fun K hK => ?_|refine s_region ?_|refine s_draw ?_|refine s_tree ?_|refine s_op fun K hK => ?_|refine s_opq fun K hK => ?_|refine s_ops ?_|refine s_endq ?_|simp only [go_sem,reduceToNat,reduceEq,reduceAdd,Nat.reduceBEq,reduceLeDiff,reduceLT,Int.reduceLT,reduceLE,reduceNeg,reduceCtorEq,hd4]|(first|(refine hK _ ?_;clear hK K)|(clear hK K;refine hK _ ?_;clear hK K)|(clear hK K;clear hK K;refine hK _ ?_;clear hK K))|refine And.intro ?_ ?_|refine s_callq hcp0 rfl ?_
      all_goals first|(simp [go_sem,tids,A.tid,A.tid.go,cons_append,frzT,St.frz,A.sub,A.subL,O.sub,subT,subH,frzY,frzZ,Post,aret,evRs,RV.ev,tupA,A.Le,A.LeL,lkp,St.frzs,A.ids,A.idsL,cond_true,cond_false,nbeq,nble,decide_true,decide_false,reduceLeDiff,Nat.reduceBEq,reduceAdd,beq_self_eq_true,true_and,and_true,true_implies,append_nil,nil_append,getElem?_cons_zero,getElem?_cons_succ,length_cons,length_nil,drop_zero,take_succ_cons,take_zero,and_self];done)|(simp [A.LeL];done)|rfl|(simp [op_mk,n_mk,s_mk,kids_mk,encs,A.Le,A.LeL];done)|skip
  · rw [none_of (.inl h4)]
    have hd4 : decide (p.op = 4) = false:=decide_eq_false h4
    refine ok38.ct mo Tryz.func38 (by simp) rfl fun hok => ?_
    unfold ac38
    simp only [optW,Option.getD_none,Option.isSome_none,noT,Term.v_eq,op_mk,n_mk,s_mk,kids_mk,encs] at *
    repeat' first|first|refine s_opt1 ?_|refine s_opt0 ?_|refine s_optq1 ?_|refine s_optq0 ?_|(refine s_norm ?_;try simp only [wsN,wsI,rmv,rng,X.ev,lkp,peel,cond_true,cond_false,nbeq,Nat.reduceBEq,reduceSub,reduceAdd,zero_add,sub_zero,sub_self,length_cons,length_nil,length_append,cons_append,nil_append,append_nil])|(refine s_take fun K hK => ?_)|(refine s_cons (fun K hK => ?_) ?_)|exact s_tnil|refine s_br ?_|refine s_done ?_|refine s_seq fun K hK => ?_|refine s_region ?_|refine s_draw ?_|refine s_tree ?_|refine s_op fun K hK => ?_|refine s_opq fun K hK => ?_|refine s_ops ?_|refine s_endq ?_|simp only [go_sem,reduceToNat,reduceEq,reduceAdd,Nat.reduceBEq,reduceLeDiff,reduceLT,Int.reduceLT,reduceLE,reduceNeg,reduceCtorEq,hd4]|(first|(refine hK _ ?_;clear hK K)|(clear hK K;refine hK _ ?_;clear hK K)|(clear hK K;clear hK K;refine hK _ ?_;clear hK K))|refine And.intro ?_ ?_
    all_goals first|(simp [go_sem,tids,A.tid,A.tid.go,cons_append,frzT,St.frz,A.sub,A.subL,O.sub,subT,subH,frzY,frzZ,Post,aret,evRs,RV.ev,tupA,A.Le,A.LeL,lkp,St.frzs,A.ids,A.idsL,cond_true,cond_false,nbeq,nble,decide_true,decide_false,reduceLeDiff,Nat.reduceBEq,reduceAdd,beq_self_eq_true,true_and,and_true,true_implies,append_nil,nil_append,getElem?_cons_zero,getElem?_cons_succ,length_cons,length_nil,drop_zero,take_succ_cons,take_zero,and_self];done)|(simp [A.LeL];done)|rfl|(simp [op_mk,n_mk,s_mk,kids_mk,encs,A.Le,A.LeL];done)|skip
end Go.Proofs.YtlddcimpdkcgeaaGreatDoor
