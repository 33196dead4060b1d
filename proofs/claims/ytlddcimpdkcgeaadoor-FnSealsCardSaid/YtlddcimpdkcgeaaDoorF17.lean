/- What is under a seal. -/
import Derived.Test.YtlddcimpdkcgeaaDoorF16
set_option linter.unusedVariables false
set_option maxRecDepth 20000
set_option maxHeartbeats 4000000
set_option linter.unusedSimpArgs false
namespace Go.Proofs.YtlddcimpdkcgeaaDoor
open Go.RowKit Sym
attribute [local irreducible] awp aops aopsQ gop gopQ gopO gopOQ gopV gopT awpN awpT awpTs ACall after

/-- What lies under a number. -/
def opP (n : Int) (p : Term) : Option Term:=match p.kids with
  | [y,z] => if p.op = 3 ∧ eqT y (numT n) = true then some z else none
  | _ => none
def openT (k : Term) (n : Int) (t : Term) : Option Term:=match t.kids with
  | [x,p] => if okT t = true ∧ t.op = 7 ∧ eqT x k = true then opP n p else none
  | _ => none
theorem opP_no {n : Int} {p : Term} (h : p.op ≠ 3) : opP n p = none:=by
  unfold opP
  split
  · rw [if_neg (fun hh => h hh.1)]
  · rfl
theorem opP_at {n : Int} {p y z : Term} (h : p.op = 3) (hk : p.kids = [y,z]) : opP n p = bif eqT y (numT n) then some z else none:=by
  unfold opP
  rw [hk]
  cases he : eqT y (numT n) <;> simp [h,he]
theorem openT_no {k : Term} {n : Int} {t : Term} (h : okT t = false ∨ t.op ≠ 7) : openT k n t = none:=by
  unfold openT
  split
  · rw [if_neg]
    rintro ⟨h1,h2,h3⟩
    rcases h with h|h
    · rw [h1] at h;cases h
    · exact h h2
  · rfl
theorem openT_at {k : Term} {n : Int} {t x p : Term} (h : okT t = true) (h7 : t.op = 7) (hk : t.kids = [x,p]) : openT k n t = bif eqT x k then opP n p else none:=by
  unfold openT
  rw [hk]
  cases he : eqT x k <;> simp [h,h7,he]
theorem openT_cnt (k : Term) (n : Int) (t : Term) : ((openT k n t).getD noT).cnt ≤ t.cnt + 10:=by
  have h0:=noT_cnt
  unfold openT
  split
  · rename_i x p hk
    split
    · unfold opP
      split
      · rename_i y z hk2
        split
        · have h1:=cnt_mem (t:=t) (x:=p) (by rw [hk];simp)
          have h2:=cnt_mem (t:=p) (x:=z) (by rw [hk2];simp)
          simp only [Option.getD_some];omega
        · simp only [Option.getD_none];omega
      · simp only [Option.getD_none];omega
    · simp only [Option.getD_none];omega
  · simp only [Option.getD_none];omega
theorem open1_ct (k : Term) (n : Int) (t : Term) (ht : t.cnt ≤ 4194000) : Ct Tryd.prog 36 [k.v,.d false (.int .i64 n),t.v] (optV (openT k n t)):=by
  have hc:=termOk1_ct t
  have hn:=num1_ct n
  refine ok36.ct mo Tryd.func36 (by simp) rfl fun hok => ?_
  unfold ac36
  by_cases h7 : t.op = 7
  · have d7 : decide (t.op = 7) = true:=decide_eq_true h7
    cases h1 : okT t with
    | true =>
      rw [h1] at hc
      obtain ⟨x,p,hk⟩:=two_kids (ok_right h1) (by rw [h7];rfl)
      have hpm : p ∈ t.kids:=by rw [hk];simp
      have hq:=same1_ct x k
      rw [openT_at h1 h7 hk]
      cases he : eqT x k with
      | false =>
        rw [he] at hq
        simp only [optV,cond_false,Option.getD_none,Option.isSome_none,noT,Term.v_eq,op_mk,n_mk,s_mk,kids_mk,hk,encs,Term.enc_eq] at *
        repeat' first|assumption|first|refine s_opt1 ?_|refine s_opt0 ?_|refine s_optq1 ?_|refine s_optq0 ?_|(refine s_norm ?_;try simp only [wsN,wsI,rmv,rng,X.ev,lkp,peel,cond_true,cond_false,nbeq,Nat.reduceBEq,Nat.reduceSub,Nat.reduceAdd,Nat.zero_add,Nat.sub_zero,Nat.sub_self,List.length_cons,List.length_nil,List.length_append,List.cons_append,List.nil_append,List.append_nil])|(refine s_take fun K hK => ?_)|(refine s_cons (fun K hK => ?_) ?_)|exact s_tnil|refine s_br ?_|refine s_done ?_|refine s_seq fun K hK => ?_|refine s_region ?_|refine s_draw ?_|refine s_tree ?_|refine s_op fun K hK => ?_|refine s_opq fun K hK => ?_|refine s_ops ?_|refine s_endq ?_|simp only [go_sem,Int.reduceToNat,Int.reduceEq,Nat.reduceAdd,Nat.reduceBEq,Nat.reduceLeDiff,Nat.reduceLT,Int.reduceLT,Int.reduceLE,Int.reduceNeg,reduceCtorEq,d7,hk,encs,Term.enc_eq,List.getD_cons_zero]|(first|(refine hK _ ?_;clear hK K)|(clear hK K;refine hK _ ?_;clear hK K)|(clear hK K;clear hK K;refine hK _ ?_;clear hK K))|refine And.intro ?_ ?_|refine s_call hc ?_|refine s_callq hc rfl ?_|refine s_call hq ?_|refine s_callq hq rfl ?_
        all_goals first|(simp [go_sem,tids,A.tid,A.tid.go,List.cons_append,frzT,St.frz,A.sub,A.subL,O.sub,subT,subH,frzY,frzZ,Post,aret,evRs,RV.ev,tupA,A.Le,A.LeL,lkp,St.frzs,St.frz,A.ids,A.idsL,cond_true,cond_false,nbeq,nble,decide_true,decide_false,Nat.reduceLeDiff,Nat.reduceBEq,Nat.reduceAdd,beq_self_eq_true,true_and,and_true,true_implies,List.append_nil,List.nil_append,List.getElem?_cons_zero,List.getElem?_cons_succ,List.length_cons,List.length_nil,List.drop_zero,List.take_succ_cons,List.take_zero,and_self];done)|(simp [A.LeL];done)|rfl|(simp [op_mk,n_mk,s_mk,kids_mk,encs,A.Le,A.LeL];done)|skip
      | true =>
        rw [he] at hq
        rw [cond_true]
        by_cases h3 : p.op = 3
        · have d3 : decide (p.op = 3) = true:=decide_eq_true h3
          obtain ⟨y,z,hk2⟩:=two_kids (right_mem (ok_right h1) hpm) (by rw [h3];rfl)
          have hzm : z ∈ p.kids:=by rw [hk2];simp
          have hcp:=copy_ct z (by have:=cnt_mem hzm;have:=cnt_mem hpm;omega)
          have hq2:=same1_ct y (numT n)
          rw [opP_at h3 hk2]
          generalize numT n = g at *
          cases he2 : eqT y g with
          | true =>
            rw [he2] at hq2
            simp only [optV,cond_true,Option.getD_some,Option.isSome_some,Term.v_eq,hk,hk2,encs,Term.enc_eq] at *
            repeat' first|assumption|first|refine s_opt1 ?_|refine s_opt0 ?_|refine s_optq1 ?_|refine s_optq0 ?_|(refine s_norm ?_;try simp only [wsN,wsI,rmv,rng,X.ev,lkp,peel,cond_true,cond_false,nbeq,Nat.reduceBEq,Nat.reduceSub,Nat.reduceAdd,Nat.zero_add,Nat.sub_zero,Nat.sub_self,List.length_cons,List.length_nil,List.length_append,List.cons_append,List.nil_append,List.append_nil])|(refine s_take fun K hK => ?_)|(refine s_cons (fun K hK => ?_) ?_)|exact s_tnil|refine s_br ?_|refine s_done ?_|refine s_seq fun K hK => ?_|refine s_region ?_|refine s_draw ?_|refine s_tree ?_|refine s_op fun K hK => ?_|refine s_opq fun K hK => ?_|refine s_ops ?_|refine s_endq ?_|simp only [go_sem,Int.reduceToNat,Int.reduceEq,Nat.reduceAdd,Nat.reduceBEq,Nat.reduceLeDiff,Nat.reduceLT,Int.reduceLT,Int.reduceLE,Int.reduceNeg,reduceCtorEq,d7,d3,hk,hk2,encs,Term.enc_eq,List.getD_cons_zero]|(first|(refine hK _ ?_;clear hK K)|(clear hK K;refine hK _ ?_;clear hK K)|(clear hK K;clear hK K;refine hK _ ?_;clear hK K))|refine And.intro ?_ ?_|refine s_call hc ?_|refine s_callq hc rfl ?_|refine s_call hq ?_|refine s_callq hq rfl ?_|refine s_call hn ?_|refine s_call hq2 ?_|refine s_callq hq2 rfl ?_|refine s_call hcp ?_
            all_goals first|(simp [go_sem,tids,A.tid,A.tid.go,List.cons_append,frzT,St.frz,A.sub,A.subL,O.sub,subT,subH,frzY,frzZ,Post,aret,evRs,RV.ev,tupA,A.Le,A.LeL,lkp,St.frzs,St.frz,A.ids,A.idsL,cond_true,cond_false,nbeq,nble,decide_true,decide_false,Nat.reduceLeDiff,Nat.reduceBEq,Nat.reduceAdd,beq_self_eq_true,true_and,and_true,true_implies,List.append_nil,List.nil_append,List.getElem?_cons_zero,List.getElem?_cons_succ,List.length_cons,List.length_nil,List.drop_zero,List.take_succ_cons,List.take_zero,and_self];done)|(simp [A.LeL];done)|rfl|(simp [op_mk,n_mk,s_mk,kids_mk,encs,A.Le,A.LeL];done)|skip
          | false =>
            rw [he2] at hq2
            simp only [optV,cond_false,Option.getD_none,Option.isSome_none,noT,Term.v_eq,op_mk,n_mk,s_mk,kids_mk,hk,hk2,encs,Term.enc_eq] at *
            repeat' first|assumption|first|refine s_opt1 ?_|refine s_opt0 ?_|refine s_optq1 ?_|refine s_optq0 ?_|(refine s_norm ?_;try simp only [wsN,wsI,rmv,rng,X.ev,lkp,peel,cond_true,cond_false,nbeq,Nat.reduceBEq,Nat.reduceSub,Nat.reduceAdd,Nat.zero_add,Nat.sub_zero,Nat.sub_self,List.length_cons,List.length_nil,List.length_append,List.cons_append,List.nil_append,List.append_nil])|(refine s_take fun K hK => ?_)|(refine s_cons (fun K hK => ?_) ?_)|exact s_tnil|refine s_br ?_|refine s_done ?_|refine s_seq fun K hK => ?_|refine s_region ?_|refine s_draw ?_|refine s_tree ?_|refine s_op fun K hK => ?_|refine s_opq fun K hK => ?_|refine s_ops ?_|refine s_endq ?_|simp only [go_sem,Int.reduceToNat,Int.reduceEq,Nat.reduceAdd,Nat.reduceBEq,Nat.reduceLeDiff,Nat.reduceLT,Int.reduceLT,Int.reduceLE,Int.reduceNeg,reduceCtorEq,d7,d3,hk,hk2,encs,Term.enc_eq,List.getD_cons_zero]|(first|(refine hK _ ?_;clear hK K)|(clear hK K;refine hK _ ?_;clear hK K)|(clear hK K;clear hK K;refine hK _ ?_;clear hK K))|refine And.intro ?_ ?_|refine s_call hc ?_|refine s_callq hc rfl ?_|refine s_call hq ?_|refine s_callq hq rfl ?_|refine s_call hn ?_|refine s_call hq2 ?_|refine s_callq hq2 rfl ?_
            all_goals first|(simp [go_sem,tids,A.tid,A.tid.go,List.cons_append,frzT,St.frz,A.sub,A.subL,O.sub,subT,subH,frzY,frzZ,Post,aret,evRs,RV.ev,tupA,A.Le,A.LeL,lkp,St.frzs,St.frz,A.ids,A.idsL,cond_true,cond_false,nbeq,nble,decide_true,decide_false,Nat.reduceLeDiff,Nat.reduceBEq,Nat.reduceAdd,beq_self_eq_true,true_and,and_true,true_implies,List.append_nil,List.nil_append,List.getElem?_cons_zero,List.getElem?_cons_succ,List.length_cons,List.length_nil,List.drop_zero,List.take_succ_cons,List.take_zero,and_self];done)|(simp [A.LeL];done)|rfl|(simp [op_mk,n_mk,s_mk,kids_mk,encs,A.Le,A.LeL];done)|skip
        · have d3 : decide (p.op = 3) = false:=decide_eq_false h3
          rw [opP_no h3]
          simp only [optV,Option.getD_none,Option.isSome_none,noT,Term.v_eq,op_mk,n_mk,s_mk,kids_mk,hk,encs,Term.enc_eq] at *
          repeat' first|assumption|first|refine s_opt1 ?_|refine s_opt0 ?_|refine s_optq1 ?_|refine s_optq0 ?_|(refine s_norm ?_;try simp only [wsN,wsI,rmv,rng,X.ev,lkp,peel,cond_true,cond_false,nbeq,Nat.reduceBEq,Nat.reduceSub,Nat.reduceAdd,Nat.zero_add,Nat.sub_zero,Nat.sub_self,List.length_cons,List.length_nil,List.length_append,List.cons_append,List.nil_append,List.append_nil])|(refine s_take fun K hK => ?_)|(refine s_cons (fun K hK => ?_) ?_)|exact s_tnil|refine s_br ?_|refine s_done ?_|refine s_seq fun K hK => ?_|refine s_region ?_|refine s_draw ?_|refine s_tree ?_|refine s_op fun K hK => ?_|refine s_opq fun K hK => ?_|refine s_ops ?_|refine s_endq ?_|simp only [go_sem,Int.reduceToNat,Int.reduceEq,Nat.reduceAdd,Nat.reduceBEq,Nat.reduceLeDiff,Nat.reduceLT,Int.reduceLT,Int.reduceLE,Int.reduceNeg,reduceCtorEq,d7,d3,hk,encs,Term.enc_eq,List.getD_cons_zero]|(first|(refine hK _ ?_;clear hK K)|(clear hK K;refine hK _ ?_;clear hK K)|(clear hK K;clear hK K;refine hK _ ?_;clear hK K))|refine And.intro ?_ ?_|refine s_call hc ?_|refine s_callq hc rfl ?_|refine s_call hq ?_|refine s_callq hq rfl ?_
          all_goals first|(simp [go_sem,tids,A.tid,A.tid.go,List.cons_append,frzT,St.frz,A.sub,A.subL,O.sub,subT,subH,frzY,frzZ,Post,aret,evRs,RV.ev,tupA,A.Le,A.LeL,lkp,St.frzs,St.frz,A.ids,A.idsL,cond_true,cond_false,nbeq,nble,decide_true,decide_false,Nat.reduceLeDiff,Nat.reduceBEq,Nat.reduceAdd,beq_self_eq_true,true_and,and_true,true_implies,List.append_nil,List.nil_append,List.getElem?_cons_zero,List.getElem?_cons_succ,List.length_cons,List.length_nil,List.drop_zero,List.take_succ_cons,List.take_zero,and_self];done)|(simp [A.LeL];done)|rfl|(simp [op_mk,n_mk,s_mk,kids_mk,encs,A.Le,A.LeL];done)|skip
    | false =>
      rw [h1] at hc
      rw [openT_no (.inl h1)]
      simp only [optV,Option.getD_none,Option.isSome_none,noT,Term.v_eq,op_mk,n_mk,s_mk,kids_mk,encs] at *
      repeat' first|assumption|first|refine s_opt1 ?_|refine s_opt0 ?_|refine s_optq1 ?_|refine s_optq0 ?_|(refine s_norm ?_;try simp only [wsN,wsI,rmv,rng,X.ev,lkp,peel,cond_true,cond_false,nbeq,Nat.reduceBEq,Nat.reduceSub,Nat.reduceAdd,Nat.zero_add,Nat.sub_zero,Nat.sub_self,List.length_cons,List.length_nil,List.length_append,List.cons_append,List.nil_append,List.append_nil])|(refine s_take fun K hK => ?_)|(refine s_cons (fun K hK => ?_) ?_)|exact s_tnil|refine s_br ?_|refine s_done ?_|refine s_seq fun K hK => ?_|refine s_region ?_|refine s_draw ?_|refine s_tree ?_|refine s_op fun K hK => ?_|refine s_opq fun K hK => ?_|refine s_ops ?_|refine s_endq ?_|simp only [go_sem,Int.reduceToNat,Int.reduceEq,Nat.reduceAdd,Nat.reduceBEq,Nat.reduceLeDiff,Nat.reduceLT,Int.reduceLT,Int.reduceLE,Int.reduceNeg,reduceCtorEq,d7]|(first|(refine hK _ ?_;clear hK K)|(clear hK K;refine hK _ ?_;clear hK K)|(clear hK K;clear hK K;refine hK _ ?_;clear hK K))|refine And.intro ?_ ?_|refine s_call hc ?_|refine s_callq hc rfl ?_
      all_goals first|(simp [go_sem,tids,A.tid,A.tid.go,List.cons_append,frzT,St.frz,A.sub,A.subL,O.sub,subT,subH,frzY,frzZ,Post,aret,evRs,RV.ev,tupA,A.Le,A.LeL,lkp,St.frzs,St.frz,A.ids,A.idsL,cond_true,cond_false,nbeq,nble,decide_true,decide_false,Nat.reduceLeDiff,Nat.reduceBEq,Nat.reduceAdd,beq_self_eq_true,true_and,and_true,true_implies,List.append_nil,List.nil_append,List.getElem?_cons_zero,List.getElem?_cons_succ,List.length_cons,List.length_nil,List.drop_zero,List.take_succ_cons,List.take_zero,and_self];done)|(simp [A.LeL];done)|rfl|(simp [op_mk,n_mk,s_mk,kids_mk,encs,A.Le,A.LeL];done)|skip
  · have d7 : decide (t.op = 7) = false:=decide_eq_false h7
    rw [openT_no (.inr h7)]
    cases h1 : okT t with
    | true =>
      rw [h1] at hc
      simp only [optV,Option.getD_none,Option.isSome_none,noT,Term.v_eq,op_mk,n_mk,s_mk,kids_mk,encs] at *
      repeat' first|assumption|first|refine s_opt1 ?_|refine s_opt0 ?_|refine s_optq1 ?_|refine s_optq0 ?_|(refine s_norm ?_;try simp only [wsN,wsI,rmv,rng,X.ev,lkp,peel,cond_true,cond_false,nbeq,Nat.reduceBEq,Nat.reduceSub,Nat.reduceAdd,Nat.zero_add,Nat.sub_zero,Nat.sub_self,List.length_cons,List.length_nil,List.length_append,List.cons_append,List.nil_append,List.append_nil])|(refine s_take fun K hK => ?_)|(refine s_cons (fun K hK => ?_) ?_)|exact s_tnil|refine s_br ?_|refine s_done ?_|refine s_seq fun K hK => ?_|refine s_region ?_|refine s_draw ?_|refine s_tree ?_|refine s_op fun K hK => ?_|refine s_opq fun K hK => ?_|refine s_ops ?_|refine s_endq ?_|simp only [go_sem,Int.reduceToNat,Int.reduceEq,Nat.reduceAdd,Nat.reduceBEq,Nat.reduceLeDiff,Nat.reduceLT,Int.reduceLT,Int.reduceLE,Int.reduceNeg,reduceCtorEq,d7]|(first|(refine hK _ ?_;clear hK K)|(clear hK K;refine hK _ ?_;clear hK K)|(clear hK K;clear hK K;refine hK _ ?_;clear hK K))|refine And.intro ?_ ?_|refine s_call hc ?_|refine s_callq hc rfl ?_
      all_goals first|(simp [go_sem,tids,A.tid,A.tid.go,List.cons_append,frzT,St.frz,A.sub,A.subL,O.sub,subT,subH,frzY,frzZ,Post,aret,evRs,RV.ev,tupA,A.Le,A.LeL,lkp,St.frzs,St.frz,A.ids,A.idsL,cond_true,cond_false,nbeq,nble,decide_true,decide_false,Nat.reduceLeDiff,Nat.reduceBEq,Nat.reduceAdd,beq_self_eq_true,true_and,and_true,true_implies,List.append_nil,List.nil_append,List.getElem?_cons_zero,List.getElem?_cons_succ,List.length_cons,List.length_nil,List.drop_zero,List.take_succ_cons,List.take_zero,and_self];done)|(simp [A.LeL];done)|rfl|(simp [op_mk,n_mk,s_mk,kids_mk,encs,A.Le,A.LeL];done)|skip
    | false =>
      rw [h1] at hc
      simp only [optV,Option.getD_none,Option.isSome_none,noT,Term.v_eq,op_mk,n_mk,s_mk,kids_mk,encs] at *
      repeat' first|assumption|first|refine s_opt1 ?_|refine s_opt0 ?_|refine s_optq1 ?_|refine s_optq0 ?_|(refine s_norm ?_;try simp only [wsN,wsI,rmv,rng,X.ev,lkp,peel,cond_true,cond_false,nbeq,Nat.reduceBEq,Nat.reduceSub,Nat.reduceAdd,Nat.zero_add,Nat.sub_zero,Nat.sub_self,List.length_cons,List.length_nil,List.length_append,List.cons_append,List.nil_append,List.append_nil])|(refine s_take fun K hK => ?_)|(refine s_cons (fun K hK => ?_) ?_)|exact s_tnil|refine s_br ?_|refine s_done ?_|refine s_seq fun K hK => ?_|refine s_region ?_|refine s_draw ?_|refine s_tree ?_|refine s_op fun K hK => ?_|refine s_opq fun K hK => ?_|refine s_ops ?_|refine s_endq ?_|simp only [go_sem,Int.reduceToNat,Int.reduceEq,Nat.reduceAdd,Nat.reduceBEq,Nat.reduceLeDiff,Nat.reduceLT,Int.reduceLT,Int.reduceLE,Int.reduceNeg,reduceCtorEq,d7]|(first|(refine hK _ ?_;clear hK K)|(clear hK K;refine hK _ ?_;clear hK K)|(clear hK K;clear hK K;refine hK _ ?_;clear hK K))|refine And.intro ?_ ?_|refine s_call hc ?_|refine s_callq hc rfl ?_
      all_goals first|(simp [go_sem,tids,A.tid,A.tid.go,List.cons_append,frzT,St.frz,A.sub,A.subL,O.sub,subT,subH,frzY,frzZ,Post,aret,evRs,RV.ev,tupA,A.Le,A.LeL,lkp,St.frzs,St.frz,A.ids,A.idsL,cond_true,cond_false,nbeq,nble,decide_true,decide_false,Nat.reduceLeDiff,Nat.reduceBEq,Nat.reduceAdd,beq_self_eq_true,true_and,and_true,true_implies,List.append_nil,List.nil_append,List.getElem?_cons_zero,List.getElem?_cons_succ,List.length_cons,List.length_nil,List.drop_zero,List.take_succ_cons,List.take_zero,and_self];done)|(simp [A.LeL];done)|rfl|(simp [op_mk,n_mk,s_mk,kids_mk,encs,A.Le,A.LeL];done)|skip
theorem open2_ct (k : Term) (n : Int) (t : Term) (ht : t.cnt ≤ 4194000) : Ct Tryd.prog 35 [k.v,.d false (.int .i64 n),t.v] (optW (openT k n t)):=by
  have hc:=termOk2_ct t
  have hn:=num2_ct n
  refine ok35.ct mo Tryd.func35 (by simp) rfl fun hok => ?_
  unfold ac35
  by_cases h7 : t.op = 7
  · have d7 : decide (t.op = 7) = true:=decide_eq_true h7
    cases h1 : okT t with
    | true =>
      rw [h1] at hc
      obtain ⟨x,p,hk⟩:=two_kids (ok_right h1) (by rw [h7];rfl)
      have hpm : p ∈ t.kids:=by rw [hk];simp
      have hq:=same2_ct x k
      rw [openT_at h1 h7 hk]
      cases he : eqT x k with
      | false =>
        rw [he] at hq
        simp only [optW,cond_false,Option.getD_none,Option.isSome_none,noT,Term.v_eq,op_mk,n_mk,s_mk,kids_mk,hk,encs,Term.enc_eq] at *
        repeat' first|assumption|first|refine s_opt1 ?_|refine s_opt0 ?_|refine s_optq1 ?_|refine s_optq0 ?_|(refine s_norm ?_;try simp only [wsN,wsI,rmv,rng,X.ev,lkp,peel,cond_true,cond_false,nbeq,Nat.reduceBEq,Nat.reduceSub,Nat.reduceAdd,Nat.zero_add,Nat.sub_zero,Nat.sub_self,List.length_cons,List.length_nil,List.length_append,List.cons_append,List.nil_append,List.append_nil])|(refine s_take fun K hK => ?_)|(refine s_cons (fun K hK => ?_) ?_)|exact s_tnil|refine s_br ?_|refine s_done ?_|refine s_seq fun K hK => ?_|refine s_region ?_|refine s_draw ?_|refine s_tree ?_|refine s_op fun K hK => ?_|refine s_opq fun K hK => ?_|refine s_ops ?_|refine s_endq ?_|simp only [go_sem,Int.reduceToNat,Int.reduceEq,Nat.reduceAdd,Nat.reduceBEq,Nat.reduceLeDiff,Nat.reduceLT,Int.reduceLT,Int.reduceLE,Int.reduceNeg,reduceCtorEq,d7,hk,encs,Term.enc_eq,List.getD_cons_zero]|(first|(refine hK _ ?_;clear hK K)|(clear hK K;refine hK _ ?_;clear hK K)|(clear hK K;clear hK K;refine hK _ ?_;clear hK K))|refine And.intro ?_ ?_|refine s_call hc ?_|refine s_callq hc rfl ?_|refine s_call hq ?_|refine s_callq hq rfl ?_
        all_goals first|(simp [go_sem,tids,A.tid,A.tid.go,List.cons_append,frzT,St.frz,A.sub,A.subL,O.sub,subT,subH,frzY,frzZ,Post,aret,evRs,RV.ev,tupA,A.Le,A.LeL,lkp,St.frzs,St.frz,A.ids,A.idsL,cond_true,cond_false,nbeq,nble,decide_true,decide_false,Nat.reduceLeDiff,Nat.reduceBEq,Nat.reduceAdd,beq_self_eq_true,true_and,and_true,true_implies,List.append_nil,List.nil_append,List.getElem?_cons_zero,List.getElem?_cons_succ,List.length_cons,List.length_nil,List.drop_zero,List.take_succ_cons,List.take_zero,and_self];done)|(simp [A.LeL];done)|rfl|(simp [op_mk,n_mk,s_mk,kids_mk,encs,A.Le,A.LeL];done)|skip
      | true =>
        rw [he] at hq
        rw [cond_true]
        by_cases h3 : p.op = 3
        · have d3 : decide (p.op = 3) = true:=decide_eq_true h3
          obtain ⟨y,z,hk2⟩:=two_kids (right_mem (ok_right h1) hpm) (by rw [h3];rfl)
          have hzm : z ∈ p.kids:=by rw [hk2];simp
          have hcp:=clone_own z (by have:=cnt_mem hzm;have:=cnt_mem hpm;omega)
          have hq2:=same2_ct y (numT n)
          rw [opP_at h3 hk2]
          generalize numT n = g at *
          cases he2 : eqT y g with
          | true =>
            rw [he2] at hq2
            simp only [optW,cond_true,Option.getD_some,Option.isSome_some,Term.v_eq,hk,hk2,encs,Term.enc_eq] at *
            repeat' first|assumption|first|refine s_opt1 ?_|refine s_opt0 ?_|refine s_optq1 ?_|refine s_optq0 ?_|(refine s_norm ?_;try simp only [wsN,wsI,rmv,rng,X.ev,lkp,peel,cond_true,cond_false,nbeq,Nat.reduceBEq,Nat.reduceSub,Nat.reduceAdd,Nat.zero_add,Nat.sub_zero,Nat.sub_self,List.length_cons,List.length_nil,List.length_append,List.cons_append,List.nil_append,List.append_nil])|(refine s_take fun K hK => ?_)|(refine s_cons (fun K hK => ?_) ?_)|exact s_tnil|refine s_br ?_|refine s_done ?_|refine s_seq fun K hK => ?_|refine s_region ?_|refine s_draw ?_|refine s_tree ?_|refine s_op fun K hK => ?_|refine s_opq fun K hK => ?_|refine s_ops ?_|refine s_endq ?_|simp only [go_sem,Int.reduceToNat,Int.reduceEq,Nat.reduceAdd,Nat.reduceBEq,Nat.reduceLeDiff,Nat.reduceLT,Int.reduceLT,Int.reduceLE,Int.reduceNeg,reduceCtorEq,d7,d3,hk,hk2,encs,Term.enc_eq,List.getD_cons_zero]|(first|(refine hK _ ?_;clear hK K)|(clear hK K;refine hK _ ?_;clear hK K)|(clear hK K;clear hK K;refine hK _ ?_;clear hK K))|refine And.intro ?_ ?_|refine s_call hc ?_|refine s_callq hc rfl ?_|refine s_call hq ?_|refine s_callq hq rfl ?_|refine s_call hn ?_|refine s_call hq2 ?_|refine s_callq hq2 rfl ?_|refine s_call hcp ?_
            all_goals first|(simp [go_sem,tids,A.tid,A.tid.go,List.cons_append,frzT,St.frz,A.sub,A.subL,O.sub,subT,subH,frzY,frzZ,Post,aret,evRs,RV.ev,tupA,A.Le,A.LeL,lkp,St.frzs,St.frz,A.ids,A.idsL,cond_true,cond_false,nbeq,nble,decide_true,decide_false,Nat.reduceLeDiff,Nat.reduceBEq,Nat.reduceAdd,beq_self_eq_true,true_and,and_true,true_implies,List.append_nil,List.nil_append,List.getElem?_cons_zero,List.getElem?_cons_succ,List.length_cons,List.length_nil,List.drop_zero,List.take_succ_cons,List.take_zero,and_self];done)|(simp [A.LeL];done)|rfl|(simp [op_mk,n_mk,s_mk,kids_mk,encs,A.Le,A.LeL];done)|skip
          | false =>
            rw [he2] at hq2
            simp only [optW,cond_false,Option.getD_none,Option.isSome_none,noT,Term.v_eq,op_mk,n_mk,s_mk,kids_mk,hk,hk2,encs,Term.enc_eq] at *
            repeat' first|assumption|first|refine s_opt1 ?_|refine s_opt0 ?_|refine s_optq1 ?_|refine s_optq0 ?_|(refine s_norm ?_;try simp only [wsN,wsI,rmv,rng,X.ev,lkp,peel,cond_true,cond_false,nbeq,Nat.reduceBEq,Nat.reduceSub,Nat.reduceAdd,Nat.zero_add,Nat.sub_zero,Nat.sub_self,List.length_cons,List.length_nil,List.length_append,List.cons_append,List.nil_append,List.append_nil])|(refine s_take fun K hK => ?_)|(refine s_cons (fun K hK => ?_) ?_)|exact s_tnil|refine s_br ?_|refine s_done ?_|refine s_seq fun K hK => ?_|refine s_region ?_|refine s_draw ?_|refine s_tree ?_|refine s_op fun K hK => ?_|refine s_opq fun K hK => ?_|refine s_ops ?_|refine s_endq ?_|simp only [go_sem,Int.reduceToNat,Int.reduceEq,Nat.reduceAdd,Nat.reduceBEq,Nat.reduceLeDiff,Nat.reduceLT,Int.reduceLT,Int.reduceLE,Int.reduceNeg,reduceCtorEq,d7,d3,hk,hk2,encs,Term.enc_eq,List.getD_cons_zero]|(first|(refine hK _ ?_;clear hK K)|(clear hK K;refine hK _ ?_;clear hK K)|(clear hK K;clear hK K;refine hK _ ?_;clear hK K))|refine And.intro ?_ ?_|refine s_call hc ?_|refine s_callq hc rfl ?_|refine s_call hq ?_|refine s_callq hq rfl ?_|refine s_call hn ?_|refine s_call hq2 ?_|refine s_callq hq2 rfl ?_
            all_goals first|(simp [go_sem,tids,A.tid,A.tid.go,List.cons_append,frzT,St.frz,A.sub,A.subL,O.sub,subT,subH,frzY,frzZ,Post,aret,evRs,RV.ev,tupA,A.Le,A.LeL,lkp,St.frzs,St.frz,A.ids,A.idsL,cond_true,cond_false,nbeq,nble,decide_true,decide_false,Nat.reduceLeDiff,Nat.reduceBEq,Nat.reduceAdd,beq_self_eq_true,true_and,and_true,true_implies,List.append_nil,List.nil_append,List.getElem?_cons_zero,List.getElem?_cons_succ,List.length_cons,List.length_nil,List.drop_zero,List.take_succ_cons,List.take_zero,and_self];done)|(simp [A.LeL];done)|rfl|(simp [op_mk,n_mk,s_mk,kids_mk,encs,A.Le,A.LeL];done)|skip
        · have d3 : decide (p.op = 3) = false:=decide_eq_false h3
          rw [opP_no h3]
          simp only [optW,Option.getD_none,Option.isSome_none,noT,Term.v_eq,op_mk,n_mk,s_mk,kids_mk,hk,encs,Term.enc_eq] at *
          repeat' first|assumption|first|refine s_opt1 ?_|refine s_opt0 ?_|refine s_optq1 ?_|refine s_optq0 ?_|(refine s_norm ?_;try simp only [wsN,wsI,rmv,rng,X.ev,lkp,peel,cond_true,cond_false,nbeq,Nat.reduceBEq,Nat.reduceSub,Nat.reduceAdd,Nat.zero_add,Nat.sub_zero,Nat.sub_self,List.length_cons,List.length_nil,List.length_append,List.cons_append,List.nil_append,List.append_nil])|(refine s_take fun K hK => ?_)|(refine s_cons (fun K hK => ?_) ?_)|exact s_tnil|refine s_br ?_|refine s_done ?_|refine s_seq fun K hK => ?_|refine s_region ?_|refine s_draw ?_|refine s_tree ?_|refine s_op fun K hK => ?_|refine s_opq fun K hK => ?_|refine s_ops ?_|refine s_endq ?_|simp only [go_sem,Int.reduceToNat,Int.reduceEq,Nat.reduceAdd,Nat.reduceBEq,Nat.reduceLeDiff,Nat.reduceLT,Int.reduceLT,Int.reduceLE,Int.reduceNeg,reduceCtorEq,d7,d3,hk,encs,Term.enc_eq,List.getD_cons_zero]|(first|(refine hK _ ?_;clear hK K)|(clear hK K;refine hK _ ?_;clear hK K)|(clear hK K;clear hK K;refine hK _ ?_;clear hK K))|refine And.intro ?_ ?_|refine s_call hc ?_|refine s_callq hc rfl ?_|refine s_call hq ?_|refine s_callq hq rfl ?_
          all_goals first|(simp [go_sem,tids,A.tid,A.tid.go,List.cons_append,frzT,St.frz,A.sub,A.subL,O.sub,subT,subH,frzY,frzZ,Post,aret,evRs,RV.ev,tupA,A.Le,A.LeL,lkp,St.frzs,St.frz,A.ids,A.idsL,cond_true,cond_false,nbeq,nble,decide_true,decide_false,Nat.reduceLeDiff,Nat.reduceBEq,Nat.reduceAdd,beq_self_eq_true,true_and,and_true,true_implies,List.append_nil,List.nil_append,List.getElem?_cons_zero,List.getElem?_cons_succ,List.length_cons,List.length_nil,List.drop_zero,List.take_succ_cons,List.take_zero,and_self];done)|(simp [A.LeL];done)|rfl|(simp [op_mk,n_mk,s_mk,kids_mk,encs,A.Le,A.LeL];done)|skip
    | false =>
      rw [h1] at hc
      rw [openT_no (.inl h1)]
      simp only [optW,Option.getD_none,Option.isSome_none,noT,Term.v_eq,op_mk,n_mk,s_mk,kids_mk,encs] at *
      repeat' first|assumption|first|refine s_opt1 ?_|refine s_opt0 ?_|refine s_optq1 ?_|refine s_optq0 ?_|(refine s_norm ?_;try simp only [wsN,wsI,rmv,rng,X.ev,lkp,peel,cond_true,cond_false,nbeq,Nat.reduceBEq,Nat.reduceSub,Nat.reduceAdd,Nat.zero_add,Nat.sub_zero,Nat.sub_self,List.length_cons,List.length_nil,List.length_append,List.cons_append,List.nil_append,List.append_nil])|(refine s_take fun K hK => ?_)|(refine s_cons (fun K hK => ?_) ?_)|exact s_tnil|refine s_br ?_|refine s_done ?_|refine s_seq fun K hK => ?_|refine s_region ?_|refine s_draw ?_|refine s_tree ?_|refine s_op fun K hK => ?_|refine s_opq fun K hK => ?_|refine s_ops ?_|refine s_endq ?_|simp only [go_sem,Int.reduceToNat,Int.reduceEq,Nat.reduceAdd,Nat.reduceBEq,Nat.reduceLeDiff,Nat.reduceLT,Int.reduceLT,Int.reduceLE,Int.reduceNeg,reduceCtorEq,d7]|(first|(refine hK _ ?_;clear hK K)|(clear hK K;refine hK _ ?_;clear hK K)|(clear hK K;clear hK K;refine hK _ ?_;clear hK K))|refine And.intro ?_ ?_|refine s_call hc ?_|refine s_callq hc rfl ?_
      all_goals first|(simp [go_sem,tids,A.tid,A.tid.go,List.cons_append,frzT,St.frz,A.sub,A.subL,O.sub,subT,subH,frzY,frzZ,Post,aret,evRs,RV.ev,tupA,A.Le,A.LeL,lkp,St.frzs,St.frz,A.ids,A.idsL,cond_true,cond_false,nbeq,nble,decide_true,decide_false,Nat.reduceLeDiff,Nat.reduceBEq,Nat.reduceAdd,beq_self_eq_true,true_and,and_true,true_implies,List.append_nil,List.nil_append,List.getElem?_cons_zero,List.getElem?_cons_succ,List.length_cons,List.length_nil,List.drop_zero,List.take_succ_cons,List.take_zero,and_self];done)|(simp [A.LeL];done)|rfl|(simp [op_mk,n_mk,s_mk,kids_mk,encs,A.Le,A.LeL];done)|skip
  · have d7 : decide (t.op = 7) = false:=decide_eq_false h7
    rw [openT_no (.inr h7)]
    cases h1 : okT t with
    | true =>
      rw [h1] at hc
      simp only [optW,Option.getD_none,Option.isSome_none,noT,Term.v_eq,op_mk,n_mk,s_mk,kids_mk,encs] at *
      repeat' first|assumption|first|refine s_opt1 ?_|refine s_opt0 ?_|refine s_optq1 ?_|refine s_optq0 ?_|(refine s_norm ?_;try simp only [wsN,wsI,rmv,rng,X.ev,lkp,peel,cond_true,cond_false,nbeq,Nat.reduceBEq,Nat.reduceSub,Nat.reduceAdd,Nat.zero_add,Nat.sub_zero,Nat.sub_self,List.length_cons,List.length_nil,List.length_append,List.cons_append,List.nil_append,List.append_nil])|(refine s_take fun K hK => ?_)|(refine s_cons (fun K hK => ?_) ?_)|exact s_tnil|refine s_br ?_|refine s_done ?_|refine s_seq fun K hK => ?_|refine s_region ?_|refine s_draw ?_|refine s_tree ?_|refine s_op fun K hK => ?_|refine s_opq fun K hK => ?_|refine s_ops ?_|refine s_endq ?_|simp only [go_sem,Int.reduceToNat,Int.reduceEq,Nat.reduceAdd,Nat.reduceBEq,Nat.reduceLeDiff,Nat.reduceLT,Int.reduceLT,Int.reduceLE,Int.reduceNeg,reduceCtorEq,d7]|(first|(refine hK _ ?_;clear hK K)|(clear hK K;refine hK _ ?_;clear hK K)|(clear hK K;clear hK K;refine hK _ ?_;clear hK K))|refine And.intro ?_ ?_|refine s_call hc ?_|refine s_callq hc rfl ?_
      all_goals first|(simp [go_sem,tids,A.tid,A.tid.go,List.cons_append,frzT,St.frz,A.sub,A.subL,O.sub,subT,subH,frzY,frzZ,Post,aret,evRs,RV.ev,tupA,A.Le,A.LeL,lkp,St.frzs,St.frz,A.ids,A.idsL,cond_true,cond_false,nbeq,nble,decide_true,decide_false,Nat.reduceLeDiff,Nat.reduceBEq,Nat.reduceAdd,beq_self_eq_true,true_and,and_true,true_implies,List.append_nil,List.nil_append,List.getElem?_cons_zero,List.getElem?_cons_succ,List.length_cons,List.length_nil,List.drop_zero,List.take_succ_cons,List.take_zero,and_self];done)|(simp [A.LeL];done)|rfl|(simp [op_mk,n_mk,s_mk,kids_mk,encs,A.Le,A.LeL];done)|skip
    | false =>
      rw [h1] at hc
      simp only [optW,Option.getD_none,Option.isSome_none,noT,Term.v_eq,op_mk,n_mk,s_mk,kids_mk,encs] at *
      repeat' first|assumption|first|refine s_opt1 ?_|refine s_opt0 ?_|refine s_optq1 ?_|refine s_optq0 ?_|(refine s_norm ?_;try simp only [wsN,wsI,rmv,rng,X.ev,lkp,peel,cond_true,cond_false,nbeq,Nat.reduceBEq,Nat.reduceSub,Nat.reduceAdd,Nat.zero_add,Nat.sub_zero,Nat.sub_self,List.length_cons,List.length_nil,List.length_append,List.cons_append,List.nil_append,List.append_nil])|(refine s_take fun K hK => ?_)|(refine s_cons (fun K hK => ?_) ?_)|exact s_tnil|refine s_br ?_|refine s_done ?_|refine s_seq fun K hK => ?_|refine s_region ?_|refine s_draw ?_|refine s_tree ?_|refine s_op fun K hK => ?_|refine s_opq fun K hK => ?_|refine s_ops ?_|refine s_endq ?_|simp only [go_sem,Int.reduceToNat,Int.reduceEq,Nat.reduceAdd,Nat.reduceBEq,Nat.reduceLeDiff,Nat.reduceLT,Int.reduceLT,Int.reduceLE,Int.reduceNeg,reduceCtorEq,d7]|(first|(refine hK _ ?_;clear hK K)|(clear hK K;refine hK _ ?_;clear hK K)|(clear hK K;clear hK K;refine hK _ ?_;clear hK K))|refine And.intro ?_ ?_|refine s_call hc ?_|refine s_callq hc rfl ?_
      all_goals first|(simp [go_sem,tids,A.tid,A.tid.go,List.cons_append,frzT,St.frz,A.sub,A.subL,O.sub,subT,subH,frzY,frzZ,Post,aret,evRs,RV.ev,tupA,A.Le,A.LeL,lkp,St.frzs,St.frz,A.ids,A.idsL,cond_true,cond_false,nbeq,nble,decide_true,decide_false,Nat.reduceLeDiff,Nat.reduceBEq,Nat.reduceAdd,beq_self_eq_true,true_and,and_true,true_implies,List.append_nil,List.nil_append,List.getElem?_cons_zero,List.getElem?_cons_succ,List.length_cons,List.length_nil,List.drop_zero,List.take_succ_cons,List.take_zero,and_self];done)|(simp [A.LeL];done)|rfl|(simp [op_mk,n_mk,s_mk,kids_mk,encs,A.Le,A.LeL];done)|skip
end Go.Proofs.YtlddcimpdkcgeaaDoor
