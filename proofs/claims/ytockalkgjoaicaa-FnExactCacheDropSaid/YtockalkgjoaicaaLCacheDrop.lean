/- The law. -/
import Derived.Test.YtockalkgjoaicaaD20
set_option linter.unusedVariables false
set_option linter.unusedSimpArgs false
set_option maxRecDepth 20000
set_option maxHeartbeats 4000000
namespace Go.Proofs.Ytockalkgjoaicaa
open Go.RowKit Sym
attribute [local irreducible] awp aops aopsQ gop gopQ gopO gopOQ gopV gopT awpN awpT awpTs ACall after
theorem kPs_cnt : ∀ ps : List Policy,kPs ps ≤ 3 * ps.length + cntPs ps
  | [] => by simp [kPs]
  | p :: ps => by
    have:=kPs_cnt ps
    simp only [kPs,kP,cntPs,Policy.cnt,List.length_cons]
    omega
theorem kPs_kept (now : Int) : ∀ ps : List Policy,kPs (keptP ps now) ≤ kPs ps
  | [] => by simp [kPs,keptP]
  | p :: ps => by
    have:=kPs_kept now ps
    unfold keptP at *
    by_cases h : now ≤ p.til
    · rw [List.filter_cons_of_pos (by simpa using h)]
      simp only [kPs]
      omega
    · rw [List.filter_cons_of_neg (by simpa using h)]
      simp only [kPs]
      omega
theorem law_CacheDrop (ts : List Policy) (n : Int) : Ct Try.prog 3 [.d false (.sl (encPs ts)),.d false (.int .i64 n)] (.d true (.bool true)):=by
  by_cases ha : ((ts.length + cntPs ts : Nat) : Int) ≤ 1048576
  · have hla : lft (ts.length + cntPs ts) (1048576) = 1048576 - ((ts.length + cntPs ts : Nat) : Int):=if_pos ha
    have hda : decide (1048576 - ((ts.length + cntPs ts : Nat) : Int) < 0) = false:=decide_eq_false (by omega)
    have hsa:=szPolicyS_ct ts 1048576 (by omega) (by omega)
    have hs:=drop1_ct ts n (by omega)
    have hi:=drop2_ct ts n (by omega)
    have hk1:=kPs_cnt ts
    have hk2:=kPs_kept n ts
    generalize keptP ts n = g at *
    have hta:=toPolicyS_own ts (by omega)
    have hea:=eqPolicyS_ct ts ts
    have heg:=eqPolicyS_ct g g
    rw [eqPs_refl] at hea heg
    have hm1:=markPolicyS_m ts 1 (by omega) (by omega)
    have hm2:=markPolicyS_m g 1 (by omega) (by omega)
    have hh:=held1_ct g 1 (by omega) (by omega)
    have dk : decide ((1 : Int) + (kPs ts : Int) < 0) = false:=decide_eq_false (by omega)
    have dg : decide ((1 : Int) + (kPs g : Int) < 0) = false:=decide_eq_false (by omega)
    rw [hla] at hsa
    clear hla ha hk1 hk2
    generalize ((ts.length + cntPs ts : Nat) : Int) = q at *
    generalize encPs (markPs 1 g) = mg at *
    generalize encPs (markPs 1 ts) = mt at *
    generalize encPs g = eg at *
    generalize encPs ts = et at *
    generalize (1 : Int) + (kPs g : Int) = kg at *
    generalize (1 : Int) + (kPs ts : Int) = kt at *
    refine ok3.ct mo Try.func3 (by simp) rfl fun hok => ?_
    unfold ac3
    repeat' first|assumption|first|refine s_opt1 ?_|refine s_opt0 ?_|refine s_optq1 ?_|refine s_optq0 ?_|(refine s_norm ?_;try simp only [wsN,wsI,rmv,rng,X.ev,lkp,peel,cond_true,cond_false,nbeq,Nat.reduceBEq,Nat.reduceSub,Nat.reduceAdd,Nat.zero_add,Nat.sub_zero,Nat.sub_self,List.length_cons,List.length_nil,List.length_append,List.cons_append,List.nil_append,List.append_nil])|(refine s_take fun K hK => ?_)|(refine s_cons (fun K hK => ?_) ?_)|exact s_tnil|refine s_br ?_|refine s_done ?_|refine s_seq fun K hK => ?_|refine s_region ?_|refine s_draw ?_|refine s_tree ?_|refine s_op fun K hK => ?_|refine s_opq fun K hK => ?_|refine s_ops ?_|refine s_endq ?_|simp only [go_sem,Int.reduceToNat,Int.reduceEq,Nat.reduceAdd,Nat.reduceBEq,Nat.reduceLeDiff,Nat.reduceLT,Int.reduceLT,Int.reduceLE,Int.reduceNeg,reduceCtorEq,Bool.not_true,bne_self_eq_false,decide_true,hda,dk,dg]|(first|(refine hK _ ?_;clear hK K)|(clear hK K;refine hK _ ?_;clear hK K)|(clear hK K;clear hK K;refine hK _ ?_;clear hK K))|refine And.intro ?_ ?_|refine s_call hsa ?_|refine s_call hta ?_|refine s_call hs ?_|refine s_call hi ?_|refine s_call hea ?_|refine s_call heg ?_|refine s_mark rfl rfl hm1 ?_|refine s_mark rfl rfl hm2 ?_|refine s_call hh ?_
    all_goals first|(simp [go_sem,tids,A.tid,A.tid.go,List.cons_append,frzT,St.frz,A.sub,A.subL,O.sub,subT,subH,frzY,frzZ,Post,aret,evRs,RV.ev,tupA,A.Le,A.LeL,lkp,St.frzs,St.frz,A.ids,A.idsL,cond_true,cond_false,nbeq,nble,decide_true,decide_false,Nat.reduceLeDiff,Nat.reduceBEq,Nat.reduceAdd,beq_self_eq_true,true_and,and_true,true_implies,List.append_nil,List.nil_append,List.getElem?_cons_zero,List.getElem?_cons_succ,List.length_cons,List.length_nil,List.drop_zero,List.take_succ_cons,List.take_zero,and_self];done)|trivial|(simp [A.LeL];done)|skip
  · have hla : lft (ts.length + cntPs ts) (1048576) = -1:=if_neg ha
    have hsa:=szPolicyS_ct ts 1048576 (by omega) (by omega)
    rw [hla] at hsa
    refine ok3.ct mo Try.func3 (by simp) rfl fun hok => ?_
    unfold ac3
    repeat' first|assumption|first|refine s_opt1 ?_|refine s_opt0 ?_|refine s_optq1 ?_|refine s_optq0 ?_|(refine s_norm ?_;try simp only [wsN,wsI,rmv,rng,X.ev,lkp,peel,cond_true,cond_false,nbeq,Nat.reduceBEq,Nat.reduceSub,Nat.reduceAdd,Nat.zero_add,Nat.sub_zero,Nat.sub_self,List.length_cons,List.length_nil,List.length_append,List.cons_append,List.nil_append,List.append_nil])|(refine s_take fun K hK => ?_)|(refine s_cons (fun K hK => ?_) ?_)|exact s_tnil|refine s_br ?_|refine s_done ?_|refine s_seq fun K hK => ?_|refine s_region ?_|refine s_draw ?_|refine s_tree ?_|refine s_op fun K hK => ?_|refine s_opq fun K hK => ?_|refine s_ops ?_|refine s_endq ?_|simp only [go_sem,Int.reduceToNat,Int.reduceEq,Nat.reduceAdd,Nat.reduceBEq,Nat.reduceLeDiff,Nat.reduceLT,Int.reduceLT,Int.reduceLE,Int.reduceNeg,reduceCtorEq,show decide ((-1 : Int) < 0) = true from rfl]|(first|(refine hK _ ?_;clear hK K)|(clear hK K;refine hK _ ?_;clear hK K)|(clear hK K;clear hK K;refine hK _ ?_;clear hK K))|refine And.intro ?_ ?_|refine s_call hsa ?_
    all_goals first|(simp [go_sem,tids,A.tid,A.tid.go,List.cons_append,frzT,St.frz,A.sub,A.subL,O.sub,subT,subH,frzY,frzZ,Post,aret,evRs,RV.ev,tupA,A.Le,A.LeL,lkp,St.frzs,St.frz,A.ids,A.idsL,cond_true,cond_false,nbeq,nble,decide_true,decide_false,Nat.reduceLeDiff,Nat.reduceBEq,Nat.reduceAdd,beq_self_eq_true,true_and,and_true,true_implies,List.append_nil,List.nil_append,List.getElem?_cons_zero,List.getElem?_cons_succ,List.length_cons,List.length_nil,List.drop_zero,List.take_succ_cons,List.take_zero,and_self];done)|trivial|skip
end Go.Proofs.Ytockalkgjoaicaa
