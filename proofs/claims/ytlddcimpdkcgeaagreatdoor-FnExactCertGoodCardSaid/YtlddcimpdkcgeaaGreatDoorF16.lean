/- Keys, seals, replies. -/
import Derived.Test.YtlddcimpdkcgeaaGreatDoorF13
import Derived.Test.YtlddcimpdkcgeaaGreatDoorD7
set_option linter.unusedVariables false
set_option linter.unusedSimpArgs false
set_option maxRecDepth 20000
set_option maxHeartbeats 4000000
namespace Go.Proofs.YtlddcimpdkcgeaaGreatDoor
open List (length_cons length_nil cons_append nil_append append_nil)
open Nat (reduceLeDiff reduceAdd)
open Go.RowKit Sym
attribute [local irreducible] awp aops aopsQ gop gopQ gopO gopOQ gopV gopT awpN awpT awpTs ACall after
def numT (n : Int) : Term:=textT (digB n)
theorem numT_cnt (n : Int) : (numT n).cnt ≤ 21:=by rw [numT,textT_cnt];exact digB_size n
theorem num1_ct (n : Int) : Ct Tryz.prog 57 [.d false (.int .i64 n)] (numT n).v:=by
  have h:=digits1_ct n
  refine ok57.ct mo Tryz.func57 (by simp) rfl fun hok => ?_
  unfold ac57 numT textT
  simp only [Term.v_eq,op_mk,n_mk,s_mk,kids_mk,encs]
  generalize digB n = d at *
  repeat' first|assumption|first|refine s_opt1 ?_|refine s_opt0 ?_|refine s_optq1 ?_|refine s_optq0 ?_|(refine s_norm ?_;try simp only [wsN,wsI,rmv,rng,X.ev,lkp,peel,cond_true,cond_false,nbeq,Nat.reduceBEq,Nat.reduceSub,reduceAdd,Nat.zero_add,Nat.sub_zero,Nat.sub_self,length_cons,length_nil,List.length_append,cons_append,nil_append,append_nil])|(refine s_take fun K hK => ?_)|(refine s_cons (fun K hK => ?_) ?_)|exact s_tnil|refine s_br ?_|refine s_done ?_|refine s_seq fun K hK => ?_|refine s_region ?_|refine s_draw ?_|refine s_tree ?_|refine s_op fun K hK => ?_|refine s_opq fun K hK => ?_|refine s_ops ?_|refine s_endq ?_|simp only [go_sem,Int.reduceToNat,Int.reduceEq,reduceAdd,Nat.reduceBEq,reduceLeDiff,Nat.reduceLT,Int.reduceLT,Int.reduceLE,Int.reduceNeg,reduceCtorEq]|(first|(refine hK _ ?_;clear hK K)|(clear hK K;refine hK _ ?_;clear hK K)|(clear hK K;clear hK K;refine hK _ ?_;clear hK K))|refine And.intro ?_ ?_|refine s_call h ?_
  all_goals first|(simp [go_sem,tids,A.tid,A.tid.go,cons_append,frzT,St.frz,A.sub,A.subL,O.sub,subT,subH,frzY,frzZ,Post,aret,evRs,RV.ev,tupA,A.Le,A.LeL,lkp,St.frzs,A.ids,A.idsL,cond_true,cond_false,nbeq,nble,decide_true,decide_false,reduceLeDiff,Nat.reduceBEq,reduceAdd,beq_self_eq_true,true_and,and_true,true_implies,append_nil,nil_append,List.getElem?_cons_zero,List.getElem?_cons_succ,length_cons,length_nil,List.drop_zero,List.take_succ_cons,List.take_zero,and_self];done)|(simp [A.LeL];done)|skip
theorem num2_ct (n : Int) : Ct Tryz.prog 49 [.d false (.int .i64 n)] (numT n).v:=by
  have h:=itoa_ct n
  have ht:=text2_ct (digB n)
  refine ok49.ct mo Tryz.func49 (by simp) rfl fun hok => ?_
  unfold ac49 numT
  generalize textT (digB n) = g at *
  generalize digB n = d at *
  simp only [Term.v_eq] at *
  repeat' first|assumption|first|refine s_opt1 ?_|refine s_opt0 ?_|refine s_optq1 ?_|refine s_optq0 ?_|(refine s_norm ?_;try simp only [wsN,wsI,rmv,rng,X.ev,lkp,peel,cond_true,cond_false,nbeq,Nat.reduceBEq,Nat.reduceSub,reduceAdd,Nat.zero_add,Nat.sub_zero,Nat.sub_self,length_cons,length_nil,List.length_append,cons_append,nil_append,append_nil])|(refine s_take fun K hK => ?_)|(refine s_cons (fun K hK => ?_) ?_)|exact s_tnil|refine s_br ?_|refine s_done ?_|refine s_seq fun K hK => ?_|refine s_region ?_|refine s_draw ?_|refine s_tree ?_|refine s_op fun K hK => ?_|refine s_opq fun K hK => ?_|refine s_ops ?_|refine s_endq ?_|simp only [go_sem,Int.reduceToNat,Int.reduceEq,reduceAdd,Nat.reduceBEq,reduceLeDiff,Nat.reduceLT,Int.reduceLT,Int.reduceLE,Int.reduceNeg,reduceCtorEq]|(first|(refine hK _ ?_;clear hK K)|(clear hK K;refine hK _ ?_;clear hK K)|(clear hK K;clear hK K;refine hK _ ?_;clear hK K))|refine And.intro ?_ ?_|refine s_call h ?_|refine s_call ht ?_
  all_goals first|(simp [go_sem,tids,A.tid,A.tid.go,cons_append,frzT,St.frz,A.sub,A.subL,O.sub,subT,subH,frzY,frzZ,Post,aret,evRs,RV.ev,tupA,A.Le,A.LeL,lkp,St.frzs,A.ids,A.idsL,cond_true,cond_false,nbeq,nble,decide_true,decide_false,reduceLeDiff,Nat.reduceBEq,reduceAdd,beq_self_eq_true,true_and,and_true,true_implies,append_nil,nil_append,List.getElem?_cons_zero,List.getElem?_cons_succ,length_cons,length_nil,List.drop_zero,List.take_succ_cons,List.take_zero,and_self];done)|(simp [A.LeL];done)|skip
end Go.Proofs.YtlddcimpdkcgeaaGreatDoor
