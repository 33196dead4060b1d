/- The law. -/
import Derived.Test.YtlddcimpdkcgeaaGreatDoorE8
set_option linter.unusedVariables false
set_option linter.unusedSimpArgs false
set_option maxRecDepth 20000
set_option maxHeartbeats 4000000
namespace Go.Proofs.YtlddcimpdkcgeaaGreatDoor
open List (length_cons length_nil cons_append nil_append append_nil getElem?_cons_succ getElem?_cons_zero length_append take_succ_cons take_zero drop_zero)
open Nat (reduceLeDiff reduceAdd reduceLT reduceSub sub_self zero_add sub_zero)
open Int (reduceToNat reduceNeg reduceEq reduceLE)
open Go.RowKit Sym
attribute [local irreducible] awp aops aopsQ gop gopQ gopO gopOQ gopV gopT awpN awpT awpTs ACall after
theorem law_CertGood (a : Term) (h : ByteArray) (n : Int) : Ct Tryz.prog 3 [a.v,.d false (.str h),.d false (.int .i64 n)] (.d true (.bool true)):=by
  by_cases hsh : h.size ≤ 1048576
  · have dsh : decide ((1048576 : Int) < h.size) = false:=decide_eq_false (by omega)
    have sza:=szTerm_ct a (1048576) (by omega) (by omega)
    by_cases ha : (a.cnt : Int) ≤ 1048576
    · have hla : lft a.cnt (1048576) = 1048576 - (a.cnt : Int):=if_pos ha
      rw [hla] at sza
      have hda : decide (1048576 - (a.cnt : Int) < 0) = false:=decide_eq_false (by omega)
      have hs:=good1_ct a h n (by omega)
      have hi:=good2_ct a h n (by omega)
      simp only [optV,optW] at hs hi
      have hg : nodsL ((goodT a h n).getD noT).kids ≤ 8388608:=by have:=goodT_cnt a h n;have:=nods_le ((goodT a h n).getD noT);rw [Term.nods_eq] at this;omega
      generalize (goodT a h n).getD noT = g at *
      generalize (goodT a h n).isSome = bb at *
      have hta:=toTerm_own a (by omega)
      have hea:=eqTerm_ct a a
      rw [eqT_refl] at hea
      have hna : nodsL a.kids ≤ 1048577:=by have:=nods_le a;rw [Term.nods_eq] at this;omega
      have hk0 : decide (1 + 3 * (nodsL a.kids : Int) < 0) = false:=decide_eq_false (by omega)
      have hk1 : decide (1 + 3 * (nodsL g.kids : Int) < 0) = false:=decide_eq_false (by omega)
      have heg:=eqTerm_ct g g
      rw [eqT_refl] at heg
      refine ok3.ct mo Tryz.func3 (by simp) rfl fun hok => ?_
      unfold ac3
      simp only [Term.v_eq] at *
      repeat' first|assumption|first|refine s_opt1 ?_|refine s_opt0 ?_|refine s_optq1 ?_|refine s_optq0 ?_|(refine s_norm ?_;try simp only [wsN,wsI,rmv,rng,X.ev,lkp,peel,cond_true,cond_false,nbeq,Nat.reduceBEq,reduceSub,reduceAdd,zero_add,sub_zero,sub_self,length_cons,length_nil,length_append,cons_append,nil_append,append_nil])|(refine s_take fun K hK => ?_)|(refine s_cons (fun K hK => ?_) ?_)|exact s_tnil|refine s_br ?_|refine s_done ?_|refine s_seq fun K hK => ?_|refine s_region ?_|refine s_draw ?_|refine s_tree ?_|refine s_op fun K hK => ?_|refine s_opq fun K hK => ?_|refine s_ops ?_|refine s_endq ?_|simp only [go_sem,reduceToNat,reduceEq,reduceAdd,Nat.reduceBEq,reduceLeDiff,reduceLT,Int.reduceLT,reduceLE,reduceNeg,reduceCtorEq,Bool.not_true,bne_self_eq_false,dsh,hda,hk0,hk1]|(first|(refine hK _ ?_;clear hK K)|(clear hK K;refine hK _ ?_;clear hK K)|(clear hK K;clear hK K;refine hK _ ?_;clear hK K))|refine And.intro ?_ ?_|refine s_call sza ?_|refine s_call hta ?_|refine s_call hea ?_|refine s_callq hea rfl ?_|refine s_call heg ?_|refine s_callq heg rfl ?_|refine s_mark rfl rfl (markTerm_m a _ (by omega) (by omega)) ?_|refine s_mark rfl rfl (markTerm_m g _ (by omega) (by omega)) ?_|refine s_call (heldTerm_ct g.op g.n g.s g.kids 1 (by decide) (by omega)) ?_|refine s_call hs ?_|refine s_call hi ?_
      all_goals first|(simp [go_sem,tids,A.tid,A.tid.go,cons_append,frzT,St.frz,A.sub,A.subL,O.sub,subT,subH,frzY,frzZ,Post,aret,evRs,RV.ev,tupA,A.Le,A.LeL,lkp,St.frzs,A.ids,A.idsL,cond_true,cond_false,nbeq,nble,decide_true,decide_false,reduceLeDiff,Nat.reduceBEq,reduceAdd,beq_self_eq_true,true_and,and_true,true_implies,append_nil,nil_append,getElem?_cons_zero,getElem?_cons_succ,length_cons,length_nil,drop_zero,take_succ_cons,take_zero,and_self];done)|trivial|(simp [A.LeL];done)|omega
    · have hla : lft a.cnt (1048576) = -1:=if_neg ha
      rw [hla] at sza
      refine ok3.ct mo Tryz.func3 (by simp) rfl fun hok => ?_
      unfold ac3
      simp only [Term.v_eq] at *
      repeat' first|assumption|first|refine s_opt1 ?_|refine s_opt0 ?_|refine s_optq1 ?_|refine s_optq0 ?_|(refine s_norm ?_;try simp only [wsN,wsI,rmv,rng,X.ev,lkp,peel,cond_true,cond_false,nbeq,Nat.reduceBEq,reduceSub,reduceAdd,zero_add,sub_zero,sub_self,length_cons,length_nil,length_append,cons_append,nil_append,append_nil])|(refine s_take fun K hK => ?_)|(refine s_cons (fun K hK => ?_) ?_)|exact s_tnil|refine s_br ?_|refine s_done ?_|refine s_seq fun K hK => ?_|refine s_region ?_|refine s_draw ?_|refine s_tree ?_|refine s_op fun K hK => ?_|refine s_opq fun K hK => ?_|refine s_ops ?_|refine s_endq ?_|simp only [go_sem,reduceToNat,reduceEq,reduceAdd,Nat.reduceBEq,reduceLeDiff,reduceLT,Int.reduceLT,reduceLE,reduceNeg,reduceCtorEq,dsh,show decide ((-1 : Int) < 0) = true from rfl]|(first|(refine hK _ ?_;clear hK K)|(clear hK K;refine hK _ ?_;clear hK K)|(clear hK K;clear hK K;refine hK _ ?_;clear hK K))|refine And.intro ?_ ?_|refine s_call sza ?_
      all_goals first|(simp [go_sem,tids,A.tid,A.tid.go,cons_append,frzT,St.frz,A.sub,A.subL,O.sub,subT,subH,frzY,frzZ,Post,aret,evRs,RV.ev,tupA,A.Le,A.LeL,lkp,St.frzs,A.ids,A.idsL,cond_true,cond_false,nbeq,nble,decide_true,decide_false,reduceLeDiff,Nat.reduceBEq,reduceAdd,beq_self_eq_true,true_and,and_true,true_implies,append_nil,nil_append,getElem?_cons_zero,getElem?_cons_succ,length_cons,length_nil,drop_zero,take_succ_cons,take_zero,and_self];done)|trivial
  · have dsh : decide ((1048576 : Int) < h.size) = true:=decide_eq_true (by omega)
    refine ok3.ct mo Tryz.func3 (by simp) rfl fun hok => ?_
    unfold ac3
    simp only [Term.v_eq] at *
    repeat' first|first|refine s_opt1 ?_|refine s_opt0 ?_|refine s_optq1 ?_|refine s_optq0 ?_|(refine s_norm ?_;try simp only [wsN,wsI,rmv,rng,X.ev,lkp,peel,cond_true,cond_false,nbeq,Nat.reduceBEq,reduceSub,reduceAdd,zero_add,sub_zero,sub_self,length_cons,length_nil,length_append,cons_append,nil_append,append_nil])|(refine s_take fun K hK => ?_)|(refine s_cons (fun K hK => ?_) ?_)|exact s_tnil|refine s_br ?_|refine s_done ?_|refine s_seq fun K hK => ?_|refine s_region ?_|refine s_draw ?_|refine s_tree ?_|refine s_op fun K hK => ?_|refine s_opq fun K hK => ?_|refine s_ops ?_|refine s_endq ?_|simp only [go_sem,reduceToNat,reduceEq,reduceAdd,Nat.reduceBEq,reduceLeDiff,reduceLT,Int.reduceLT,reduceLE,reduceNeg,reduceCtorEq,dsh]|(first|(refine hK _ ?_;clear hK K)|(clear hK K;refine hK _ ?_;clear hK K)|(clear hK K;clear hK K;refine hK _ ?_;clear hK K))|refine And.intro ?_ ?_
    all_goals first|(simp [go_sem,tids,A.tid,A.tid.go,cons_append,frzT,St.frz,A.sub,A.subL,O.sub,subT,subH,frzY,frzZ,Post,aret,evRs,RV.ev,tupA,A.Le,A.LeL,lkp,St.frzs,A.ids,A.idsL,cond_true,cond_false,nbeq,nble,decide_true,decide_false,reduceLeDiff,Nat.reduceBEq,reduceAdd,beq_self_eq_true,true_and,and_true,true_implies,append_nil,nil_append,getElem?_cons_zero,getElem?_cons_succ,length_cons,length_nil,drop_zero,take_succ_cons,take_zero,and_self];done)|trivial
end Go.Proofs.YtlddcimpdkcgeaaGreatDoor
