/- The law. -/
import Derived.Test.YtlddcimpdkcgeaaDoorE3
set_option linter.unusedVariables false
set_option linter.unusedSimpArgs false
set_option maxRecDepth 20000
set_option maxHeartbeats 4000000
namespace Go.Proofs.YtlddcimpdkcgeaaDoor
open Go.RowKit Sym
attribute [local irreducible] awp aops aopsQ gop gopQ gopO gopOQ gopV gopT awpN awpT awpTs ACall after
theorem law_CertTerm (c : Cert) : Ct Tryd.prog 8 [c.v] (.d true (.bool true)):=by
  have szc:=szCert_ct c (1048576) (by omega) (by omega)
  by_cases hc : (c.cnt : Int) ≤ 1048576
  · have hlc : lft c.cnt (1048576) = 1048576 - (c.cnt : Int):=if_pos hc
    rw [hlc] at szc
    have hdc : decide (1048576 - (c.cnt : Int) < 0) = false:=decide_eq_false (by omega)
    have hs:=certT1_ct c (by omega)
    have hi:=certT2_ct c (by omega)
    have hg : nodsL (certT c).kids ≤ 8388608:=by have:=certT_cnt c;have:=nods_le (certT c);rw [Term.nods_eq] at this;omega
    generalize certT c = g at *
    have htc:=toCert_own c (by omega)
    have hec:=eqCert_ct c c
    rw [eqC_refl] at hec
    have hvc:=htc.weak (r':=c.v) (by simp [A.Le,A.LeL])
    have hpc : c.pub.cnt ≤ c.cnt:=by unfold Cert.cnt;omega
    have hnc_pub : nodsL c.pub.kids ≤ 1048577:=by have:=nods_le c.pub;rw [Term.nods_eq] at this;omega
    have hk0 : decide (1 + 3 * (nodsL c.pub.kids : Int) < 0) = false:=decide_eq_false (by omega)
    have hk1 : decide (1 + 3 * (nodsL g.kids : Int) < 0) = false:=decide_eq_false (by omega)
    have heg:=eqTerm_ct g g
    rw [eqT_refl] at heg
    have hj:=hi.weak (r':=g.v) (by simp [A.Le,A.LeL])
    refine ok8.ct mo Tryd.func8 (by simp) rfl fun hok => ?_
    unfold ac8
    simp only [Cert.v_eq,Term.v_eq] at *
    repeat' first|assumption|(refine stle_of_eq rfl ?_;simp [StLe,leT,leH,A.Le,A.LeL,O.Le,lkp,freeT,freeH,A.free,A.freeL,cond_true,cond_false,nbeq,nble,nblt,decide_true,decide_false,Nat.reduceLT,Nat.reduceBEq,true_and,and_true,List.length_cons,List.length_nil,true_implies,and_self,Bool.and_true,Bool.true_and,Bool.and_self];done)|apply s_cutT|first|refine s_opt1 ?_|refine s_opt0 ?_|refine s_optq1 ?_|refine s_optq0 ?_|(refine s_norm ?_;try simp only [wsN,wsI,rmv,rng,X.ev,lkp,peel,cond_true,cond_false,nbeq,Nat.reduceBEq,Nat.reduceSub,Nat.reduceAdd,Nat.zero_add,Nat.sub_zero,Nat.sub_self,List.length_cons,List.length_nil,List.length_append,List.cons_append,List.nil_append,List.append_nil])|(refine s_take fun K hK => ?_)|(refine s_cons (fun K hK => ?_) ?_)|exact s_tnil|refine s_br ?_|refine s_done ?_|refine s_seq fun K hK => ?_|refine s_region ?_|refine s_draw ?_|refine s_tree ?_|refine s_op fun K hK => ?_|refine s_opq fun K hK => ?_|refine s_ops ?_|refine s_endq ?_|simp only [go_sem,Int.reduceToNat,Int.reduceEq,Nat.reduceAdd,Nat.reduceBEq,Nat.reduceLeDiff,Nat.reduceLT,Int.reduceLT,Int.reduceLE,Int.reduceNeg,reduceCtorEq,Bool.not_true,bne_self_eq_false,hdc,hk0,hk1]|(first|(refine hK _ ?_;clear hK K)|(clear hK K;refine hK _ ?_;clear hK K)|(clear hK K;clear hK K;refine hK _ ?_;clear hK K))|refine And.intro ?_ ?_|refine s_call szc ?_|refine s_call (mk:=Sym.mkB _ _) hvc ?_|refine s_call (mk:=allB) htc ?_|refine s_call hec ?_|refine s_callq hec rfl ?_|refine s_call heg ?_|refine s_callq heg rfl ?_|refine s_mark rfl rfl (markCert_m c _ (by omega) (by omega)) ?_|refine s_mark rfl rfl (markTerm_m g _ (by omega) (by omega)) ?_|refine s_call (heldTerm_ct g.op g.n g.s g.kids 1 (by decide) (by omega)) ?_|refine s_call hs ?_|refine s_call (mk:=Sym.mkB _ _) hj ?_|refine s_call (mk:=allB) hi ?_
    all_goals first|(simp [go_sem,tids,A.tid,A.tid.go,List.cons_append,frzT,St.frz,A.sub,A.subL,O.sub,subT,subH,frzY,frzZ,Post,aret,evRs,RV.ev,tupA,A.Le,A.LeL,lkp,St.frzs,St.frz,A.ids,A.idsL,cond_true,cond_false,nbeq,nble,decide_true,decide_false,Nat.reduceLeDiff,Nat.reduceBEq,Nat.reduceAdd,beq_self_eq_true,true_and,and_true,true_implies,List.append_nil,List.nil_append,List.getElem?_cons_zero,List.getElem?_cons_succ,List.length_cons,List.length_nil,List.drop_zero,List.take_succ_cons,List.take_zero,and_self];done)|trivial|(simp [A.LeL];done)|omega
  · have hlc : lft c.cnt (1048576) = -1:=if_neg hc
    rw [hlc] at szc
    refine ok8.ct mo Tryd.func8 (by simp) rfl fun hok => ?_
    unfold ac8
    simp only [Cert.v_eq,Term.v_eq] at *
    repeat' first|assumption|first|refine s_opt1 ?_|refine s_opt0 ?_|refine s_optq1 ?_|refine s_optq0 ?_|(refine s_norm ?_;try simp only [wsN,wsI,rmv,rng,X.ev,lkp,peel,cond_true,cond_false,nbeq,Nat.reduceBEq,Nat.reduceSub,Nat.reduceAdd,Nat.zero_add,Nat.sub_zero,Nat.sub_self,List.length_cons,List.length_nil,List.length_append,List.cons_append,List.nil_append,List.append_nil])|(refine s_take fun K hK => ?_)|(refine s_cons (fun K hK => ?_) ?_)|exact s_tnil|refine s_br ?_|refine s_done ?_|refine s_seq fun K hK => ?_|refine s_region ?_|refine s_draw ?_|refine s_tree ?_|refine s_op fun K hK => ?_|refine s_opq fun K hK => ?_|refine s_ops ?_|refine s_endq ?_|simp only [go_sem,Int.reduceToNat,Int.reduceEq,Nat.reduceAdd,Nat.reduceBEq,Nat.reduceLeDiff,Nat.reduceLT,Int.reduceLT,Int.reduceLE,Int.reduceNeg,reduceCtorEq,show decide ((-1 : Int) < 0) = true from rfl]|(first|(refine hK _ ?_;clear hK K)|(clear hK K;refine hK _ ?_;clear hK K)|(clear hK K;clear hK K;refine hK _ ?_;clear hK K))|refine And.intro ?_ ?_|refine s_call szc ?_
    all_goals first|(simp [go_sem,tids,A.tid,A.tid.go,List.cons_append,frzT,St.frz,A.sub,A.subL,O.sub,subT,subH,frzY,frzZ,Post,aret,evRs,RV.ev,tupA,A.Le,A.LeL,lkp,St.frzs,St.frz,A.ids,A.idsL,cond_true,cond_false,nbeq,nble,decide_true,decide_false,Nat.reduceLeDiff,Nat.reduceBEq,Nat.reduceAdd,beq_self_eq_true,true_and,and_true,true_implies,List.append_nil,List.nil_append,List.getElem?_cons_zero,List.getElem?_cons_succ,List.length_cons,List.length_nil,List.drop_zero,List.take_succ_cons,List.take_zero,and_self];done)|trivial
end Go.Proofs.YtlddcimpdkcgeaaDoor
