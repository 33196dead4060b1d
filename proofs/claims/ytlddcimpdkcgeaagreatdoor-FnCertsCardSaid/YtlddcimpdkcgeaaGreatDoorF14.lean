/- A share of two secrets. -/
import Derived.Test.YtlddcimpdkcgeaaGreatDoorF16
import Derived.Test.YtlddcimpdkcgeaaGreatDoorF3
set_option linter.unusedVariables false
set_option linter.unusedSimpArgs false
set_option maxRecDepth 20000
set_option maxHeartbeats 4000000
namespace Go.Proofs.YtlddcimpdkcgeaaGreatDoor
open List (length_cons length_nil cons_append nil_append append_nil getElem?_cons_succ getElem?_cons_zero length_append take_succ_cons take_zero drop_zero)
open Nat (reduceLeDiff reduceAdd reduceLT reduceSub sub_self zero_add sub_zero)
open Int (reduceToNat reduceNeg reduceEq reduceLE)
open Go.RowKit Sym
attribute [local irreducible] awp aops aopsQ gop gopQ gopO gopOQ gopV gopT awpN awpT awpTs ACall after
def shareT (a b : Term) : Term:=bif befT b a then .mk 5 0 ⟨#[]⟩ [b,a] else .mk 5 0 ⟨#[]⟩ [a,b]
def agreeT (a p : Term) : Option Term:=match p.kids with
  | [b] => if okT p = true ∧ p.op = 4 ∧ okT (shareT a b) = true then some (shareT a b) else none
  | _ => none
theorem agreeT_no {a p : Term} (h : okT p = false ∨ p.op ≠ 4) : agreeT a p = none:=by
  unfold agreeT
  split
  · rw [if_neg]
    rintro ⟨h1,h2,h3⟩
    rcases h with h|h
    · rw [h1] at h;cases h
    · exact h h2
  · rfl
theorem agreeT_one {a p b : Term} (h : okT p = true) (h4 : p.op = 4) (hk : p.kids = [b]) : agreeT a p = bif okT (shareT a b) then some (shareT a b) else none:=by
  unfold agreeT
  rw [hk]
  cases hs : okT (shareT a b) <;> simp [h,h4,hs]
theorem shareT_cnt (a b : Term) : (shareT a b).cnt ≤ 2 + (a.cnt + b.cnt):=by
  unfold shareT
  cases befT b a
  · simp only [cond_false];rw [cnt2];exact Nat.le_refl _
  · simp only [cond_true];rw [cnt2];omega
theorem agree1_ct (a p : Term) (ha : a.cnt ≤ 4194000) (hp : p.cnt ≤ 4194000) : Ct Tryz.prog 94 [a.v,p.v] (optV (agreeT a p)):=by
  have hc:=termOk1_ct p
  have hl0:=encs_length p.kids
  refine ok94.ct mo Tryz.func94 (by simp) rfl fun hok => ?_
  unfold ac94
  by_cases h4 : p.op = 4
  · have hd : decide (p.op = 4) = true:=decide_eq_true h4
    cases h1 : okT p with
    | true =>
      rw [h1] at hc
      obtain ⟨b,hk⟩:=one_kid (ok_right h1) (by rw [h4];rfl)
      have hb : b.cnt ≤ 4194000:=by have:=cnt_mem (t:=p) (x:=b) (by rw [hk];simp);omega
      rw [agreeT_one h1 h4 hk]
      have hq:=bef1_ct b a
      cases he : befT b a with
      | true =>
        rw [he] at hq
        have ht:=two3_ct 5 b a hb ha
        have hs : shareT a b = .mk 5 0 ⟨#[]⟩ [b,a]:=by unfold shareT;rw [he];rfl
        rw [← hs] at ht
        generalize shareT a b = g at *
        cases hg : okT g with
        | true =>
          have hr : rightOr g = g:=by unfold rightOr;rw [hg];rfl
          have hgo : decide (g.op = 5) = true:=by rw [hs];rfl
          rw [hr] at ht
          clear hs
          simp only [optV,cond_true,Option.getD_some,Option.isSome_some,Term.v_eq,hk,encs,Term.enc_eq] at *
          repeat' first|assumption|first|refine s_opt1 ?_|refine s_opt0 ?_|refine s_optq1 ?_|refine s_optq0 ?_|(refine s_norm ?_;try simp only [wsN,wsI,rmv,rng,X.ev,lkp,peel,cond_true,cond_false,nbeq,Nat.reduceBEq,reduceSub,reduceAdd,zero_add,sub_zero,sub_self,length_cons,length_nil,length_append,cons_append,nil_append,append_nil])|(refine s_take fun K hK => ?_)|(refine s_cons (fun K hK => ?_) ?_)|exact s_tnil|refine s_br ?_|refine s_done ?_|refine s_seq fun K hK => ?_|refine s_region ?_|refine s_draw ?_|refine s_tree ?_|refine s_op fun K hK => ?_|refine s_opq fun K hK => ?_|refine s_ops ?_|refine s_endq ?_|simp only [go_sem,reduceToNat,reduceEq,reduceAdd,Nat.reduceBEq,reduceLeDiff,reduceLT,Int.reduceLT,reduceLE,reduceNeg,reduceCtorEq,hd,hgo,hk,hl0,encs,Term.enc_eq,List.getD_cons_zero]|(first|(refine hK _ ?_;clear hK K)|(clear hK K;refine hK _ ?_;clear hK K)|(clear hK K;clear hK K;refine hK _ ?_;clear hK K))|refine And.intro ?_ ?_|refine s_call hc ?_|refine s_callq hc rfl ?_|refine s_call hq ?_|refine s_callq hq rfl ?_|refine s_call ht ?_
          all_goals first|(simp [go_sem,tids,A.tid,A.tid.go,cons_append,frzT,St.frz,A.sub,A.subL,O.sub,subT,subH,frzY,frzZ,Post,aret,evRs,RV.ev,tupA,A.Le,A.LeL,lkp,St.frzs,A.ids,A.idsL,cond_true,cond_false,nbeq,nble,decide_true,decide_false,reduceLeDiff,Nat.reduceBEq,reduceAdd,beq_self_eq_true,true_and,and_true,true_implies,append_nil,nil_append,getElem?_cons_zero,getElem?_cons_succ,length_cons,length_nil,drop_zero,take_succ_cons,take_zero,and_self];done)|(simp [A.LeL];done)|rfl|(simp [op_mk,n_mk,s_mk,kids_mk,encs,A.Le,A.LeL];done)|skip
        | false =>
          have hr : rightOr g = noT:=by unfold rightOr;rw [hg];rfl
          rw [hr] at ht
          clear hs
          simp only [optV,cond_false,Option.getD_none,Option.isSome_none,noT,Term.v_eq,op_mk,n_mk,s_mk,kids_mk,hk,encs,Term.enc_eq] at *
          repeat' first|assumption|first|refine s_opt1 ?_|refine s_opt0 ?_|refine s_optq1 ?_|refine s_optq0 ?_|(refine s_norm ?_;try simp only [wsN,wsI,rmv,rng,X.ev,lkp,peel,cond_true,cond_false,nbeq,Nat.reduceBEq,reduceSub,reduceAdd,zero_add,sub_zero,sub_self,length_cons,length_nil,length_append,cons_append,nil_append,append_nil])|(refine s_take fun K hK => ?_)|(refine s_cons (fun K hK => ?_) ?_)|exact s_tnil|refine s_br ?_|refine s_done ?_|refine s_seq fun K hK => ?_|refine s_region ?_|refine s_draw ?_|refine s_tree ?_|refine s_op fun K hK => ?_|refine s_opq fun K hK => ?_|refine s_ops ?_|refine s_endq ?_|simp only [go_sem,reduceToNat,reduceEq,reduceAdd,Nat.reduceBEq,reduceLeDiff,reduceLT,Int.reduceLT,reduceLE,reduceNeg,reduceCtorEq,hd,hk,hl0,encs,Term.enc_eq,List.getD_cons_zero]|(first|(refine hK _ ?_;clear hK K)|(clear hK K;refine hK _ ?_;clear hK K)|(clear hK K;clear hK K;refine hK _ ?_;clear hK K))|refine And.intro ?_ ?_|refine s_call hc ?_|refine s_callq hc rfl ?_|refine s_call hq ?_|refine s_callq hq rfl ?_|refine s_call ht ?_
          all_goals first|(simp [go_sem,tids,A.tid,A.tid.go,cons_append,frzT,St.frz,A.sub,A.subL,O.sub,subT,subH,frzY,frzZ,Post,aret,evRs,RV.ev,tupA,A.Le,A.LeL,lkp,St.frzs,A.ids,A.idsL,cond_true,cond_false,nbeq,nble,decide_true,decide_false,reduceLeDiff,Nat.reduceBEq,reduceAdd,beq_self_eq_true,true_and,and_true,true_implies,append_nil,nil_append,getElem?_cons_zero,getElem?_cons_succ,length_cons,length_nil,drop_zero,take_succ_cons,take_zero,and_self];done)|(simp [A.LeL];done)|rfl|(simp [op_mk,n_mk,s_mk,kids_mk,encs,A.Le,A.LeL];done)|skip
      | false =>
        rw [he] at hq
        have ht:=two3_ct 5 a b ha hb
        have hs : shareT a b = .mk 5 0 ⟨#[]⟩ [a,b]:=by unfold shareT;rw [he];rfl
        rw [← hs] at ht
        generalize shareT a b = g at *
        cases hg : okT g with
        | true =>
          have hr : rightOr g = g:=by unfold rightOr;rw [hg];rfl
          have hgo : decide (g.op = 5) = true:=by rw [hs];rfl
          rw [hr] at ht
          clear hs
          simp only [optV,cond_true,Option.getD_some,Option.isSome_some,Term.v_eq,hk,encs,Term.enc_eq] at *
          repeat' first|assumption|first|refine s_opt1 ?_|refine s_opt0 ?_|refine s_optq1 ?_|refine s_optq0 ?_|(refine s_norm ?_;try simp only [wsN,wsI,rmv,rng,X.ev,lkp,peel,cond_true,cond_false,nbeq,Nat.reduceBEq,reduceSub,reduceAdd,zero_add,sub_zero,sub_self,length_cons,length_nil,length_append,cons_append,nil_append,append_nil])|(refine s_take fun K hK => ?_)|(refine s_cons (fun K hK => ?_) ?_)|exact s_tnil|refine s_br ?_|refine s_done ?_|refine s_seq fun K hK => ?_|refine s_region ?_|refine s_draw ?_|refine s_tree ?_|refine s_op fun K hK => ?_|refine s_opq fun K hK => ?_|refine s_ops ?_|refine s_endq ?_|simp only [go_sem,reduceToNat,reduceEq,reduceAdd,Nat.reduceBEq,reduceLeDiff,reduceLT,Int.reduceLT,reduceLE,reduceNeg,reduceCtorEq,hd,hgo,hk,hl0,encs,Term.enc_eq,List.getD_cons_zero]|(first|(refine hK _ ?_;clear hK K)|(clear hK K;refine hK _ ?_;clear hK K)|(clear hK K;clear hK K;refine hK _ ?_;clear hK K))|refine And.intro ?_ ?_|refine s_call hc ?_|refine s_callq hc rfl ?_|refine s_call hq ?_|refine s_callq hq rfl ?_|refine s_call ht ?_
          all_goals first|(simp [go_sem,tids,A.tid,A.tid.go,cons_append,frzT,St.frz,A.sub,A.subL,O.sub,subT,subH,frzY,frzZ,Post,aret,evRs,RV.ev,tupA,A.Le,A.LeL,lkp,St.frzs,A.ids,A.idsL,cond_true,cond_false,nbeq,nble,decide_true,decide_false,reduceLeDiff,Nat.reduceBEq,reduceAdd,beq_self_eq_true,true_and,and_true,true_implies,append_nil,nil_append,getElem?_cons_zero,getElem?_cons_succ,length_cons,length_nil,drop_zero,take_succ_cons,take_zero,and_self];done)|(simp [A.LeL];done)|rfl|(simp [op_mk,n_mk,s_mk,kids_mk,encs,A.Le,A.LeL];done)|skip
        | false =>
          have hr : rightOr g = noT:=by unfold rightOr;rw [hg];rfl
          rw [hr] at ht
          clear hs
          simp only [optV,cond_false,Option.getD_none,Option.isSome_none,noT,Term.v_eq,op_mk,n_mk,s_mk,kids_mk,hk,encs,Term.enc_eq] at *
          repeat' first|assumption|first|refine s_opt1 ?_|refine s_opt0 ?_|refine s_optq1 ?_|refine s_optq0 ?_|(refine s_norm ?_;try simp only [wsN,wsI,rmv,rng,X.ev,lkp,peel,cond_true,cond_false,nbeq,Nat.reduceBEq,reduceSub,reduceAdd,zero_add,sub_zero,sub_self,length_cons,length_nil,length_append,cons_append,nil_append,append_nil])|(refine s_take fun K hK => ?_)|(refine s_cons (fun K hK => ?_) ?_)|exact s_tnil|refine s_br ?_|refine s_done ?_|refine s_seq fun K hK => ?_|refine s_region ?_|refine s_draw ?_|refine s_tree ?_|refine s_op fun K hK => ?_|refine s_opq fun K hK => ?_|refine s_ops ?_|refine s_endq ?_|simp only [go_sem,reduceToNat,reduceEq,reduceAdd,Nat.reduceBEq,reduceLeDiff,reduceLT,Int.reduceLT,reduceLE,reduceNeg,reduceCtorEq,hd,hk,hl0,encs,Term.enc_eq,List.getD_cons_zero]|(first|(refine hK _ ?_;clear hK K)|(clear hK K;refine hK _ ?_;clear hK K)|(clear hK K;clear hK K;refine hK _ ?_;clear hK K))|refine And.intro ?_ ?_|refine s_call hc ?_|refine s_callq hc rfl ?_|refine s_call hq ?_|refine s_callq hq rfl ?_|refine s_call ht ?_
          all_goals first|(simp [go_sem,tids,A.tid,A.tid.go,cons_append,frzT,St.frz,A.sub,A.subL,O.sub,subT,subH,frzY,frzZ,Post,aret,evRs,RV.ev,tupA,A.Le,A.LeL,lkp,St.frzs,A.ids,A.idsL,cond_true,cond_false,nbeq,nble,decide_true,decide_false,reduceLeDiff,Nat.reduceBEq,reduceAdd,beq_self_eq_true,true_and,and_true,true_implies,append_nil,nil_append,getElem?_cons_zero,getElem?_cons_succ,length_cons,length_nil,drop_zero,take_succ_cons,take_zero,and_self];done)|(simp [A.LeL];done)|rfl|(simp [op_mk,n_mk,s_mk,kids_mk,encs,A.Le,A.LeL];done)|skip
    | false =>
      rw [h1] at hc
      rw [agreeT_no (.inl h1)]
      by_cases hl : p.kids.length = 1
      · have hd1 : decide ((p.kids.length : Int) = 1) = true:=decide_eq_true (by omega)
        simp only [optV,Option.getD_none,Option.isSome_none,noT,Term.v_eq,op_mk,n_mk,s_mk,kids_mk,encs] at *
        repeat' first|assumption|first|refine s_opt1 ?_|refine s_opt0 ?_|refine s_optq1 ?_|refine s_optq0 ?_|(refine s_norm ?_;try simp only [wsN,wsI,rmv,rng,X.ev,lkp,peel,cond_true,cond_false,nbeq,Nat.reduceBEq,reduceSub,reduceAdd,zero_add,sub_zero,sub_self,length_cons,length_nil,length_append,cons_append,nil_append,append_nil])|(refine s_take fun K hK => ?_)|(refine s_cons (fun K hK => ?_) ?_)|exact s_tnil|refine s_br ?_|refine s_done ?_|refine s_seq fun K hK => ?_|refine s_region ?_|refine s_draw ?_|refine s_tree ?_|refine s_op fun K hK => ?_|refine s_opq fun K hK => ?_|refine s_ops ?_|refine s_endq ?_|simp only [go_sem,reduceToNat,reduceEq,reduceAdd,Nat.reduceBEq,reduceLeDiff,reduceLT,Int.reduceLT,reduceLE,reduceNeg,reduceCtorEq,hd,hl0,hd1]|(first|(refine hK _ ?_;clear hK K)|(clear hK K;refine hK _ ?_;clear hK K)|(clear hK K;clear hK K;refine hK _ ?_;clear hK K))|refine And.intro ?_ ?_|refine s_call hc ?_|refine s_callq hc rfl ?_
        all_goals first|(simp [go_sem,tids,A.tid,A.tid.go,cons_append,frzT,St.frz,A.sub,A.subL,O.sub,subT,subH,frzY,frzZ,Post,aret,evRs,RV.ev,tupA,A.Le,A.LeL,lkp,St.frzs,A.ids,A.idsL,cond_true,cond_false,nbeq,nble,decide_true,decide_false,reduceLeDiff,Nat.reduceBEq,reduceAdd,beq_self_eq_true,true_and,and_true,true_implies,append_nil,nil_append,getElem?_cons_zero,getElem?_cons_succ,length_cons,length_nil,drop_zero,take_succ_cons,take_zero,and_self];done)|(simp [A.LeL];done)|rfl|(simp [op_mk,n_mk,s_mk,kids_mk,encs,A.Le,A.LeL];done)|skip
      · have hd1 : decide ((p.kids.length : Int) = 1) = false:=decide_eq_false (by omega)
        simp only [optV,Option.getD_none,Option.isSome_none,noT,Term.v_eq,op_mk,n_mk,s_mk,kids_mk,encs] at *
        repeat' first|assumption|first|refine s_opt1 ?_|refine s_opt0 ?_|refine s_optq1 ?_|refine s_optq0 ?_|(refine s_norm ?_;try simp only [wsN,wsI,rmv,rng,X.ev,lkp,peel,cond_true,cond_false,nbeq,Nat.reduceBEq,reduceSub,reduceAdd,zero_add,sub_zero,sub_self,length_cons,length_nil,length_append,cons_append,nil_append,append_nil])|(refine s_take fun K hK => ?_)|(refine s_cons (fun K hK => ?_) ?_)|exact s_tnil|refine s_br ?_|refine s_done ?_|refine s_seq fun K hK => ?_|refine s_region ?_|refine s_draw ?_|refine s_tree ?_|refine s_op fun K hK => ?_|refine s_opq fun K hK => ?_|refine s_ops ?_|refine s_endq ?_|simp only [go_sem,reduceToNat,reduceEq,reduceAdd,Nat.reduceBEq,reduceLeDiff,reduceLT,Int.reduceLT,reduceLE,reduceNeg,reduceCtorEq,hd,hl0,hd1]|(first|(refine hK _ ?_;clear hK K)|(clear hK K;refine hK _ ?_;clear hK K)|(clear hK K;clear hK K;refine hK _ ?_;clear hK K))|refine And.intro ?_ ?_|refine s_call hc ?_|refine s_callq hc rfl ?_
        all_goals first|(simp [go_sem,tids,A.tid,A.tid.go,cons_append,frzT,St.frz,A.sub,A.subL,O.sub,subT,subH,frzY,frzZ,Post,aret,evRs,RV.ev,tupA,A.Le,A.LeL,lkp,St.frzs,A.ids,A.idsL,cond_true,cond_false,nbeq,nble,decide_true,decide_false,reduceLeDiff,Nat.reduceBEq,reduceAdd,beq_self_eq_true,true_and,and_true,true_implies,append_nil,nil_append,getElem?_cons_zero,getElem?_cons_succ,length_cons,length_nil,drop_zero,take_succ_cons,take_zero,and_self];done)|(simp [A.LeL];done)|rfl|(simp [op_mk,n_mk,s_mk,kids_mk,encs,A.Le,A.LeL];done)|skip
  · rw [agreeT_no (.inr h4)]
    have hd : decide (p.op = 4) = false:=decide_eq_false h4
    simp only [optV,Option.getD_none,Option.isSome_none,noT,Term.v_eq,op_mk,n_mk,s_mk,kids_mk,encs] at *
    repeat' first|assumption|first|refine s_opt1 ?_|refine s_opt0 ?_|refine s_optq1 ?_|refine s_optq0 ?_|(refine s_norm ?_;try simp only [wsN,wsI,rmv,rng,X.ev,lkp,peel,cond_true,cond_false,nbeq,Nat.reduceBEq,reduceSub,reduceAdd,zero_add,sub_zero,sub_self,length_cons,length_nil,length_append,cons_append,nil_append,append_nil])|(refine s_take fun K hK => ?_)|(refine s_cons (fun K hK => ?_) ?_)|exact s_tnil|refine s_br ?_|refine s_done ?_|refine s_seq fun K hK => ?_|refine s_region ?_|refine s_draw ?_|refine s_tree ?_|refine s_op fun K hK => ?_|refine s_opq fun K hK => ?_|refine s_ops ?_|refine s_endq ?_|simp only [go_sem,reduceToNat,reduceEq,reduceAdd,Nat.reduceBEq,reduceLeDiff,reduceLT,Int.reduceLT,reduceLE,reduceNeg,reduceCtorEq,hd]|(first|(refine hK _ ?_;clear hK K)|(clear hK K;refine hK _ ?_;clear hK K)|(clear hK K;clear hK K;refine hK _ ?_;clear hK K))|refine And.intro ?_ ?_|refine s_call hc ?_|refine s_callq hc rfl ?_
    all_goals first|(simp [go_sem,tids,A.tid,A.tid.go,cons_append,frzT,St.frz,A.sub,A.subL,O.sub,subT,subH,frzY,frzZ,Post,aret,evRs,RV.ev,tupA,A.Le,A.LeL,lkp,St.frzs,A.ids,A.idsL,cond_true,cond_false,nbeq,nble,decide_true,decide_false,reduceLeDiff,Nat.reduceBEq,reduceAdd,beq_self_eq_true,true_and,and_true,true_implies,append_nil,nil_append,getElem?_cons_zero,getElem?_cons_succ,length_cons,length_nil,drop_zero,take_succ_cons,take_zero,and_self];done)|(simp [A.LeL];done)|rfl|(simp [op_mk,n_mk,s_mk,kids_mk,encs,A.Le,A.LeL];done)|skip
end Go.Proofs.YtlddcimpdkcgeaaGreatDoor
