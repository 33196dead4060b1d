/- The term of a certificate, by both. -/
import Derived.Test.YtlddcimpdkcgeaaGreatDoorD11
import Derived.Test.YtlddcimpdkcgeaaGreatDoorF16
import Derived.WalkKit
import Derived.ProofKit
set_option linter.unusedVariables false
set_option linter.unusedSimpArgs false
set_option maxRecDepth 20000
set_option maxHeartbeats 8000000
namespace Go.Proofs.YtlddcimpdkcgeaaGreatDoor
open List (length_cons length_nil cons_append nil_append append_nil getElem?_cons_succ getElem?_cons_zero length_append take_succ_cons take_zero drop_zero)
open Nat (reduceLeDiff reduceAdd reduceLT reduceSub sub_self zero_add sub_zero)
open Int (reduceToNat reduceNeg reduceEq reduceLE)
open Go Go.RowKit Sym
attribute [local irreducible] awp aops aopsQ gop gopQ gopO gopOQ gopV gopT awpN awpT awpTs ACall after
@[reducible] def Cert.w (c : Cert) : A:=.agg [.d false (.str c.host),.d false (.int .i64 c.pub.op),.d false (.int .i64 c.pub.n),.d false (.str c.pub.s),.d true (.sl (encs c.pub.kids)),.d false (.int .i64 c.til)]
def caT : Term:=rightOr (.mk 1 1 ⟨#[]⟩ [])
def bodyT (c : Cert) : Term:=pairT (textT c.host) (pairT c.pub (numT c.til))
def certT (c : Cert) : Term:=bif certB c then rightOr (.mk 8 0 ⟨#[]⟩ [caT,bodyT c]) else noT
theorem caT_cnt : caT.cnt = 0 ∨ caT.cnt ≤ 10:=by
  have:=rightOr_cnt (.mk 1 1 ⟨#[]⟩ [])
  simp only [Term.cnt,cnts,sz0,length_nil] at this
  unfold caT
  omega
theorem bodyT_cnt (c : Cert) : (pairT c.pub (numT c.til)).cnt ≤ c.cnt + 40 ∧ (textT c.host).cnt ≤ c.cnt ∧ (bodyT c).cnt ≤ c.cnt + 50:=by
  have h1:=numT_cnt c.til
  have h2:=pairT_cnt c.pub (numT c.til)
  have h3:=pairT_cnt (textT c.host) (pairT c.pub (numT c.til))
  have h4:=textT_cnt c.host
  unfold bodyT Cert.cnt
  omega
theorem certT1_ct (c : Cert) (h : c.cnt ≤ 1048576) : Ct Tryz.prog 25 [c.v] (certT c).v:=by
  have hc:=certOk1_ct c h
  obtain ⟨b1,b2,b3⟩:=bodyT_cnt c
  have b4:=numT_cnt c.til
  have b5 : c.pub.cnt ≤ 1048576:=by unfold Cert.cnt at h;omega
  have b6:=caT_cnt
  have h1:=atom1_ct 1
  have h2:=num1_ct c.til
  have h3:=pair1_ct c.pub (numT c.til) (by omega) (by omega)
  have h4:=pair1_ct (textT c.host) (pairT c.pub (numT c.til)) (by omega) (by omega)
  have h5:=sign1_ct caT (bodyT c) (by omega) (by omega)
  change Ct _ _ _ caT.v at h1
  change Ct _ _ _ (pairT c.pub (numT c.til)).v at h3
  change Ct _ _ _ (bodyT c).v at h4
  refine ok25.ct mo Tryz.func25 (by simp) rfl fun hok => ?_
  unfold ac25 certT
  cases hb : certB c with
  | false =>
    rw [hb] at hc
    simp only [cond_false,noT,Cert.v_eq,Term.v_eq,op_mk,n_mk,s_mk,kids_mk,encs] at *
    repeat' first|assumption|first|refine s_opt1 ?_|refine s_opt0 ?_|refine s_optq1 ?_|refine s_optq0 ?_|(refine s_norm ?_;try simp only [wsN,wsI,rmv,rng,X.ev,lkp,peel,cond_true,cond_false,nbeq,Nat.reduceBEq,reduceSub,reduceAdd,zero_add,sub_zero,sub_self,length_cons,length_nil,length_append,cons_append,nil_append,append_nil])|(refine s_take fun K hK => ?_)|(refine s_cons (fun K hK => ?_) ?_)|exact s_tnil|refine s_br ?_|refine s_done ?_|refine s_seq fun K hK => ?_|refine s_region ?_|refine s_draw ?_|refine s_tree ?_|refine s_op fun K hK => ?_|refine s_opq fun K hK => ?_|refine s_ops ?_|refine s_endq ?_|simp only [go_sem,reduceToNat,reduceEq,reduceAdd,Nat.reduceBEq,reduceLeDiff,reduceLT,Int.reduceLT,reduceLE,reduceNeg,reduceCtorEq]|(first|(refine hK _ ?_;clear hK K)|(clear hK K;refine hK _ ?_;clear hK K)|(clear hK K;clear hK K;refine hK _ ?_;clear hK K))|refine And.intro ?_ ?_|refine s_call hc ?_
    all_goals first|(simp [go_sem,tids,A.tid,A.tid.go,cons_append,frzT,St.frz,A.sub,A.subL,O.sub,subT,subH,frzY,frzZ,Post,aret,evRs,RV.ev,tupA,A.Le,A.LeL,lkp,St.frzs,A.ids,A.idsL,cond_true,cond_false,nbeq,nble,decide_true,decide_false,reduceLeDiff,Nat.reduceBEq,reduceAdd,beq_self_eq_true,true_and,and_true,true_implies,append_nil,nil_append,getElem?_cons_zero,getElem?_cons_succ,length_cons,length_nil,drop_zero,take_succ_cons,take_zero,and_self];done)|(simp [A.LeL];done)|(simp [go_sem,tids,A.tid,A.tid.go,cons_append,frzT,St.frz,A.sub,A.subL,O.sub,subT,subH,frzY,frzZ,Post,aret,evRs,RV.ev,tupA,A.Le,A.LeL,lkp,St.frzs,A.ids,A.idsL,cond_true,cond_false,nbeq,nble,decide_true,decide_false,reduceLeDiff,Nat.reduceBEq,reduceAdd,beq_self_eq_true,true_and,and_true,true_implies,append_nil,nil_append,getElem?_cons_zero,getElem?_cons_succ,length_cons,length_nil,drop_zero,take_succ_cons,take_zero,and_self,Term.w,op_mk,n_mk,s_mk,kids_mk,encs];done)|skip
  | true =>
    rw [hb] at hc
    simp only [cond_true] at *
    generalize rightOr (.mk 8 0 ⟨#[]⟩ [caT,bodyT c]) = g at *
    generalize caT = ca at *
    generalize bodyT c = bd at *
    generalize pairT c.pub (numT c.til) = pn at *
    generalize numT c.til = nt at *
    simp only [textT,Cert.v_eq,Term.v_eq,op_mk,n_mk,s_mk,kids_mk,encs] at *
    repeat' first|assumption|first|refine s_opt1 ?_|refine s_opt0 ?_|refine s_optq1 ?_|refine s_optq0 ?_|(refine s_norm ?_;try simp only [wsN,wsI,rmv,rng,X.ev,lkp,peel,cond_true,cond_false,nbeq,Nat.reduceBEq,reduceSub,reduceAdd,zero_add,sub_zero,sub_self,length_cons,length_nil,length_append,cons_append,nil_append,append_nil])|(refine s_take fun K hK => ?_)|(refine s_cons (fun K hK => ?_) ?_)|exact s_tnil|refine s_br ?_|refine s_done ?_|refine s_seq fun K hK => ?_|refine s_region ?_|refine s_draw ?_|refine s_tree ?_|refine s_op fun K hK => ?_|refine s_opq fun K hK => ?_|refine s_ops ?_|refine s_endq ?_|simp only [go_sem,reduceToNat,reduceEq,reduceAdd,Nat.reduceBEq,reduceLeDiff,reduceLT,Int.reduceLT,reduceLE,reduceNeg,reduceCtorEq]|(first|(refine hK _ ?_;clear hK K)|(clear hK K;refine hK _ ?_;clear hK K)|(clear hK K;clear hK K;refine hK _ ?_;clear hK K))|refine And.intro ?_ ?_|refine s_call hc ?_|refine s_call h1 ?_|refine s_call h2 ?_|refine s_call h3 ?_|refine s_call h4 ?_|refine s_call h5 ?_
    all_goals first|(simp [go_sem,tids,A.tid,A.tid.go,cons_append,frzT,St.frz,A.sub,A.subL,O.sub,subT,subH,frzY,frzZ,Post,aret,evRs,RV.ev,tupA,A.Le,A.LeL,lkp,St.frzs,A.ids,A.idsL,cond_true,cond_false,nbeq,nble,decide_true,decide_false,reduceLeDiff,Nat.reduceBEq,reduceAdd,beq_self_eq_true,true_and,and_true,true_implies,append_nil,nil_append,getElem?_cons_zero,getElem?_cons_succ,length_cons,length_nil,drop_zero,take_succ_cons,take_zero,and_self];done)|(simp [A.LeL];done)|skip
theorem certT2_ct (c : Cert) (h : c.cnt ≤ 1048576) : Ct Tryz.prog 20 [c.v] (certT c).w:=by
  have hc:=certOk2_ct c h
  obtain ⟨b1,b2,b3⟩:=bodyT_cnt c
  have b4:=numT_cnt c.til
  have b5 : c.pub.cnt ≤ 1048576:=by unfold Cert.cnt at h;omega
  have b6:=caT_cnt
  have h0:=text2_ct c.host
  have h1:=Term.w_v (atom2_ct 1)
  have h2:=num2_ct c.til
  have h3:=Term.w_v (pair2_ct c.pub (numT c.til) (by omega) (by omega))
  have h4:=Term.w_v (pair2_ct (textT c.host) (pairT c.pub (numT c.til)) (by omega) (by omega))
  have h5:=sign2_ct caT (bodyT c) (by omega) (by omega)
  change Ct _ _ _ caT.v at h1
  change Ct _ _ _ (pairT c.pub (numT c.til)).v at h3
  change Ct _ _ _ (bodyT c).v at h4
  refine ok20.ct mo Tryz.func20 (by simp) rfl fun hok => ?_
  unfold ac20 certT
  cases hb : certB c with
  | false =>
    rw [hb] at hc
    simp only [cond_false,noT,Cert.v_eq,Term.v_eq,op_mk,n_mk,s_mk,kids_mk,encs] at *
    repeat' first|assumption|first|refine s_opt1 ?_|refine s_opt0 ?_|refine s_optq1 ?_|refine s_optq0 ?_|(refine s_norm ?_;try simp only [wsN,wsI,rmv,rng,X.ev,lkp,peel,cond_true,cond_false,nbeq,Nat.reduceBEq,reduceSub,reduceAdd,zero_add,sub_zero,sub_self,length_cons,length_nil,length_append,cons_append,nil_append,append_nil])|(refine s_take fun K hK => ?_)|(refine s_cons (fun K hK => ?_) ?_)|exact s_tnil|refine s_br ?_|refine s_done ?_|refine s_seq fun K hK => ?_|refine s_region ?_|refine s_draw ?_|refine s_tree ?_|refine s_op fun K hK => ?_|refine s_opq fun K hK => ?_|refine s_ops ?_|refine s_endq ?_|simp only [go_sem,reduceToNat,reduceEq,reduceAdd,Nat.reduceBEq,reduceLeDiff,reduceLT,Int.reduceLT,reduceLE,reduceNeg,reduceCtorEq]|(first|(refine hK _ ?_;clear hK K)|(clear hK K;refine hK _ ?_;clear hK K)|(clear hK K;clear hK K;refine hK _ ?_;clear hK K))|refine And.intro ?_ ?_|refine s_call hc ?_
    all_goals first|(simp [go_sem,tids,A.tid,A.tid.go,cons_append,frzT,St.frz,A.sub,A.subL,O.sub,subT,subH,frzY,frzZ,Post,aret,evRs,RV.ev,tupA,A.Le,A.LeL,lkp,St.frzs,A.ids,A.idsL,cond_true,cond_false,nbeq,nble,decide_true,decide_false,reduceLeDiff,Nat.reduceBEq,reduceAdd,beq_self_eq_true,true_and,and_true,true_implies,append_nil,nil_append,getElem?_cons_zero,getElem?_cons_succ,length_cons,length_nil,drop_zero,take_succ_cons,take_zero,and_self];done)|(simp [A.LeL];done)|(simp [go_sem,tids,A.tid,A.tid.go,cons_append,frzT,St.frz,A.sub,A.subL,O.sub,subT,subH,frzY,frzZ,Post,aret,evRs,RV.ev,tupA,A.Le,A.LeL,lkp,St.frzs,A.ids,A.idsL,cond_true,cond_false,nbeq,nble,decide_true,decide_false,reduceLeDiff,Nat.reduceBEq,reduceAdd,beq_self_eq_true,true_and,and_true,true_implies,append_nil,nil_append,getElem?_cons_zero,getElem?_cons_succ,length_cons,length_nil,drop_zero,take_succ_cons,take_zero,and_self,Term.w,op_mk,n_mk,s_mk,kids_mk,encs];done)|skip
  | true =>
    rw [hb] at hc
    simp only [cond_true] at *
    generalize rightOr (.mk 8 0 ⟨#[]⟩ [caT,bodyT c]) = g at *
    generalize caT = ca at *
    generalize bodyT c = bd at *
    generalize pairT c.pub (numT c.til) = pn at *
    generalize numT c.til = nt at *
    simp only [textT,Cert.v_eq,Term.v_eq,op_mk,n_mk,s_mk,kids_mk,encs] at *
    repeat' first|assumption|first|refine s_opt1 ?_|refine s_opt0 ?_|refine s_optq1 ?_|refine s_optq0 ?_|(refine s_norm ?_;try simp only [wsN,wsI,rmv,rng,X.ev,lkp,peel,cond_true,cond_false,nbeq,Nat.reduceBEq,reduceSub,reduceAdd,zero_add,sub_zero,sub_self,length_cons,length_nil,length_append,cons_append,nil_append,append_nil])|(refine s_take fun K hK => ?_)|(refine s_cons (fun K hK => ?_) ?_)|exact s_tnil|refine s_br ?_|refine s_done ?_|refine s_seq fun K hK => ?_|refine s_region ?_|refine s_draw ?_|refine s_tree ?_|refine s_op fun K hK => ?_|refine s_opq fun K hK => ?_|refine s_ops ?_|refine s_endq ?_|simp only [go_sem,reduceToNat,reduceEq,reduceAdd,Nat.reduceBEq,reduceLeDiff,reduceLT,Int.reduceLT,reduceLE,reduceNeg,reduceCtorEq]|(first|(refine hK _ ?_;clear hK K)|(clear hK K;refine hK _ ?_;clear hK K)|(clear hK K;clear hK K;refine hK _ ?_;clear hK K))|refine And.intro ?_ ?_|refine s_call hc ?_|refine s_call h0 ?_|refine s_call h1 ?_|refine s_call h2 ?_|refine s_call h3 ?_|refine s_call h4 ?_|refine s_call h5 ?_
    all_goals first|(simp [go_sem,tids,A.tid,A.tid.go,cons_append,frzT,St.frz,A.sub,A.subL,O.sub,subT,subH,frzY,frzZ,Post,aret,evRs,RV.ev,tupA,A.Le,A.LeL,lkp,St.frzs,A.ids,A.idsL,cond_true,cond_false,nbeq,nble,decide_true,decide_false,reduceLeDiff,Nat.reduceBEq,reduceAdd,beq_self_eq_true,true_and,and_true,true_implies,append_nil,nil_append,getElem?_cons_zero,getElem?_cons_succ,length_cons,length_nil,drop_zero,take_succ_cons,take_zero,and_self];done)|(simp [A.LeL];done)|skip
end Go.Proofs.YtlddcimpdkcgeaaGreatDoor
