/- What a greeting holds. -/
import Derived.Test.YtlddcimpdkcgeaaGreatDoorF12
set_option linter.unusedVariables false
set_option linter.unusedSimpArgs false
set_option maxRecDepth 20000
set_option maxHeartbeats 4000000
namespace Go.Proofs.YtlddcimpdkcgeaaGreatDoor
open List (length_cons length_nil cons_append nil_append append_nil getElem?_cons_succ getElem?_cons_zero length_append take_succ_cons take_zero drop_zero)
open Nat (reduceLeDiff reduceAdd reduceLT reduceSub sub_self zero_add sub_zero)
open Int (reduceToNat reduceNeg reduceEq reduceLE)
open Go.RowKit Sym
attribute [local irreducible] awp aops aopsQ gop gopQ gopO gopOQ gopV gopT awpN awpT awpTs ACall after
def twoT (t : Term) : Option (Term × Term):=match t.kids with
  | [x,y] => if t.op = 3 then some (x,y) else none
  | _ => none
@[reducible] def two2V (o : Option (Term × Term)) : A:=.tup [((o.map (·.1)).getD noT).v,((o.map (·.2)).getD noT).v,.d true (.bool o.isSome)]
theorem twoOf_ct (t : Term) : Ct Tryz.prog 41 [t.v] (two2V (twoT t)):=by
  have hl0:=encs_length t.kids
  refine ok41.ct mo Tryz.func41 (by simp) rfl fun hok => ?_
  unfold ac41
  by_cases h3 : t.op = 3
  · have hd : decide (t.op = 3) = true:=decide_eq_true h3
    by_cases hl : ∃ x y,t.kids = [x,y]
    · obtain ⟨x,y,hk⟩:=hl
      have ht : twoT t = some (x,y):=by unfold twoT;rw [hk];simp [h3]
      simp only [ht,two2V,Option.map_some,Option.getD_some,Option.isSome_some,Term.v_eq,hk,encs,Term.enc_eq] at *
      repeat' first|assumption|first|refine s_opt1 ?_|refine s_opt0 ?_|refine s_optq1 ?_|refine s_optq0 ?_|(refine s_norm ?_;try simp only [wsN,wsI,rmv,rng,X.ev,lkp,peel,cond_true,cond_false,nbeq,Nat.reduceBEq,reduceSub,reduceAdd,zero_add,sub_zero,sub_self,length_cons,length_nil,length_append,cons_append,nil_append,append_nil])|(refine s_take fun K hK => ?_)|(refine s_cons (fun K hK => ?_) ?_)|exact s_tnil|refine s_br ?_|refine s_done ?_|refine s_seq fun K hK => ?_|refine s_region ?_|refine s_draw ?_|refine s_tree ?_|refine s_op fun K hK => ?_|refine s_opq fun K hK => ?_|refine s_ops ?_|refine s_endq ?_|simp only [go_sem,reduceToNat,reduceEq,reduceAdd,Nat.reduceBEq,reduceLeDiff,reduceLT,Int.reduceLT,reduceLE,reduceNeg,reduceCtorEq,hd,hk,encs,Term.enc_eq,List.getD_cons_zero]|(first|(refine hK _ ?_;clear hK K)|(clear hK K;refine hK _ ?_;clear hK K)|(clear hK K;clear hK K;refine hK _ ?_;clear hK K))|refine And.intro ?_ ?_
      all_goals first|(simp [go_sem,tids,A.tid,A.tid.go,cons_append,frzT,St.frz,A.sub,A.subL,O.sub,subT,subH,frzY,frzZ,Post,aret,evRs,RV.ev,tupA,A.Le,A.LeL,lkp,St.frzs,A.ids,A.idsL,cond_true,cond_false,nbeq,nble,decide_true,decide_false,reduceLeDiff,Nat.reduceBEq,reduceAdd,beq_self_eq_true,true_and,and_true,true_implies,append_nil,nil_append,getElem?_cons_zero,getElem?_cons_succ,length_cons,length_nil,drop_zero,take_succ_cons,take_zero,and_self];done)|(simp [A.LeL];done)|rfl|(simp [op_mk,n_mk,s_mk,kids_mk,encs,A.Le,A.LeL];done)|skip
    · have hne : t.kids.length ≠ 2:=by
        intro h2
        match hk : t.kids,h2 with
        | [x,y],_ => exact hl ⟨x,y,hk⟩
      have ht : twoT t = none:=by
        unfold twoT
        split
        · rename_i x y hk;exact absurd ⟨x,y,hk⟩ hl
        · rfl
      have hd2 : decide ((t.kids.length : Int) = 2) = false:=decide_eq_false (by omega)
      simp only [ht,two2V,Option.map_none,Option.getD_none,Option.isSome_none,noT,Term.v_eq,op_mk,n_mk,s_mk,kids_mk,encs] at *
      repeat' first|assumption|first|refine s_opt1 ?_|refine s_opt0 ?_|refine s_optq1 ?_|refine s_optq0 ?_|(refine s_norm ?_;try simp only [wsN,wsI,rmv,rng,X.ev,lkp,peel,cond_true,cond_false,nbeq,Nat.reduceBEq,reduceSub,reduceAdd,zero_add,sub_zero,sub_self,length_cons,length_nil,length_append,cons_append,nil_append,append_nil])|(refine s_take fun K hK => ?_)|(refine s_cons (fun K hK => ?_) ?_)|exact s_tnil|refine s_br ?_|refine s_done ?_|refine s_seq fun K hK => ?_|refine s_region ?_|refine s_draw ?_|refine s_tree ?_|refine s_op fun K hK => ?_|refine s_opq fun K hK => ?_|refine s_ops ?_|refine s_endq ?_|simp only [go_sem,reduceToNat,reduceEq,reduceAdd,Nat.reduceBEq,reduceLeDiff,reduceLT,Int.reduceLT,reduceLE,reduceNeg,reduceCtorEq,hd,hl0,hd2]|(first|(refine hK _ ?_;clear hK K)|(clear hK K;refine hK _ ?_;clear hK K)|(clear hK K;clear hK K;refine hK _ ?_;clear hK K))|refine And.intro ?_ ?_
      all_goals first|(simp [go_sem,tids,A.tid,A.tid.go,cons_append,frzT,St.frz,A.sub,A.subL,O.sub,subT,subH,frzY,frzZ,Post,aret,evRs,RV.ev,tupA,A.Le,A.LeL,lkp,St.frzs,A.ids,A.idsL,cond_true,cond_false,nbeq,nble,decide_true,decide_false,reduceLeDiff,Nat.reduceBEq,reduceAdd,beq_self_eq_true,true_and,and_true,true_implies,append_nil,nil_append,getElem?_cons_zero,getElem?_cons_succ,length_cons,length_nil,drop_zero,take_succ_cons,take_zero,and_self];done)|(simp [A.LeL];done)|rfl|(simp [op_mk,n_mk,s_mk,kids_mk,encs,A.Le,A.LeL];done)|skip
  · have hd : decide (t.op = 3) = false:=decide_eq_false h3
    have ht : twoT t = none:=by
      unfold twoT
      split
      · rw [if_neg h3]
      · rfl
    simp only [ht,two2V,Option.map_none,Option.getD_none,Option.isSome_none,noT,Term.v_eq,op_mk,n_mk,s_mk,kids_mk,encs] at *
    repeat' first|assumption|first|refine s_opt1 ?_|refine s_opt0 ?_|refine s_optq1 ?_|refine s_optq0 ?_|(refine s_norm ?_;try simp only [wsN,wsI,rmv,rng,X.ev,lkp,peel,cond_true,cond_false,nbeq,Nat.reduceBEq,reduceSub,reduceAdd,zero_add,sub_zero,sub_self,length_cons,length_nil,length_append,cons_append,nil_append,append_nil])|(refine s_take fun K hK => ?_)|(refine s_cons (fun K hK => ?_) ?_)|exact s_tnil|refine s_br ?_|refine s_done ?_|refine s_seq fun K hK => ?_|refine s_region ?_|refine s_draw ?_|refine s_tree ?_|refine s_op fun K hK => ?_|refine s_opq fun K hK => ?_|refine s_ops ?_|refine s_endq ?_|simp only [go_sem,reduceToNat,reduceEq,reduceAdd,Nat.reduceBEq,reduceLeDiff,reduceLT,Int.reduceLT,reduceLE,reduceNeg,reduceCtorEq,hd]|(first|(refine hK _ ?_;clear hK K)|(clear hK K;refine hK _ ?_;clear hK K)|(clear hK K;clear hK K;refine hK _ ?_;clear hK K))|refine And.intro ?_ ?_
    all_goals first|(simp [go_sem,tids,A.tid,A.tid.go,cons_append,frzT,St.frz,A.sub,A.subL,O.sub,subT,subH,frzY,frzZ,Post,aret,evRs,RV.ev,tupA,A.Le,A.LeL,lkp,St.frzs,A.ids,A.idsL,cond_true,cond_false,nbeq,nble,decide_true,decide_false,reduceLeDiff,Nat.reduceBEq,reduceAdd,beq_self_eq_true,true_and,and_true,true_implies,append_nil,nil_append,getElem?_cons_zero,getElem?_cons_succ,length_cons,length_nil,drop_zero,take_succ_cons,take_zero,and_self];done)|(simp [A.LeL];done)|rfl|(simp [op_mk,n_mk,s_mk,kids_mk,encs,A.Le,A.LeL];done)|skip
end Go.Proofs.YtlddcimpdkcgeaaGreatDoor
