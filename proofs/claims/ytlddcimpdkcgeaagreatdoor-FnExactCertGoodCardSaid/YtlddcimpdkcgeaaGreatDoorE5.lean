/- What a certificate's term holds, by both. -/
import Derived.Test.YtlddcimpdkcgeaaGreatDoorE4
import Derived.Test.YtlddcimpdkcgeaaGreatDoorD15
import Derived.Test.YtlddcimpdkcgeaaGreatDoorF12
set_option linter.unusedVariables false
set_option linter.unusedSimpArgs false
set_option maxRecDepth 20000
set_option maxHeartbeats 16000000
namespace Go.Proofs.YtlddcimpdkcgeaaGreatDoor
open List (length_cons length_nil cons_append nil_append append_nil getElem?_cons_succ getElem?_cons_zero length_append take_succ_cons take_zero drop_zero)
open Nat (reduceLeDiff reduceAdd reduceLT reduceSub sub_self zero_add sub_zero)
open Int (reduceToNat reduceNeg reduceEq reduceLE)
open Go Go.RowKit Sym
attribute [local irreducible] awp aops aopsQ gop gopQ gopO gopOQ gopV gopT awpN awpT awpTs ACall after
def noC : Cert:=⟨⟨#[]⟩,noT,0⟩
@[reducible] def optCV (o : Option Cert) : A:=.tup [(o.getD noC).v,.d true (.bool o.isSome)]
@[reducible] def optCW (o : Option Cert) : A:=.tup [(o.getD noC).w,.d true (.bool o.isSome)]
theorem caP_cnt : caP.cnt ≤ 20:=by
  have h1:=pubT_cnt caT
  have h2:=caT_cnt
  unfold caP
  omega
theorem open_cnt {t a p u : Term} (h : openC t = some (a,p,u)) : a.cnt ≤ t.cnt ∧ p.cnt ≤ t.cnt ∧ u.cnt ≤ t.cnt ∧ a.s.size ≤ t.cnt ∧ u.s.size ≤ t.cnt ∧ a.cnt + p.cnt ≤ t.cnt:=by
  obtain ⟨x,b,hx,hab,hpu⟩:=openC_some h
  obtain ⟨_,_,z,hk⟩:=signed_some hx
  have c1:=cnt_mem (t:=t) (x:=x) (by rw [hk];simp)
  have k2:=(twoT_some hab).2
  have c2:=Term.cnt_eq x
  rw [k2] at c2
  have k3:=(twoT_some hpu).2
  have c3:=Term.cnt_eq b
  rw [k3] at c3
  simp only [cnts] at c2 c3
  have c4:=Term.cnt_eq a
  have c5:=Term.cnt_eq u
  omega
theorem twoT_ne {t : Term} (h : t.op ≠ 3) : twoT t = none:=by
  rcases e : twoT t with _|⟨a,b⟩
  · rfl
  · exact absurd (twoT_some e).1 h
theorem twoT_eq {t a b : Term} (h : t.op = 3) (hk : t.kids = [a,b]) : twoT t = some (a,b):=by
  unfold twoT
  simp only [hk,h,if_pos]
theorem certOf_none1 {t : Term} (h : signedT caP t = none) : certOfT t = none:=by unfold certOfT openC;rw [h]
theorem certOf_none2 {t x : Term} (h : signedT caP t = some x) (hx : twoT x = none) : certOfT t = none:=by unfold certOfT openC;rw [h];simp only [hx]
theorem certOf_none3 {t x a b : Term} (h : signedT caP t = some x) (hx : twoT x = some (a,b)) (hb : twoT b = none) : certOfT t = none:=by unfold certOfT openC;rw [h];simp only [hx,hb]
theorem openC_eq {t x a b p u : Term} (h : signedT caP t = some x) (hx : twoT x = some (a,b)) (hb : twoT b = some (p,u)) : openC t = some (a,p,u):=by unfold openC;rw [h];simp only [hx,hb]
theorem s_seqP {P : Program} {t : Tr} {y : AC} {Q : Ex → St → Prop} {σ : St} (h : ∀ K : St → Prop,(∀ σ',awp P y Q σ' → K σ') → awp P (.tree t [1,2,6,7]) (thenK K Q) σ) : awp P (.seq (.tree t [1,2,6,7]) y) Q σ:=s_seq h
theorem certOf1_ct (t : Term) (ht : t.cnt ≤ 1048576) : Ct Tryz.prog 13 [t.v] (optCV (certOfT t)):=by
  have g1:=atom1_ct 1
  change Ct _ _ _ caT.v at g1
  have hca:=caT_cnt
  have g2:=pub1_ct caT (by omega)
  change Ct _ _ _ caP.v at g2
  have g3:=signed1_ct caP t (by omega)
  refine ok13.ct mo Tryz.func13 (by simp) rfl fun hok => ?_
  unfold ac13
  rcases hsg : signedT caP t with _|x
  · have hc : certOfT t = none:=certOf_none1 hsg
    rw [hc]
    rw [hsg] at g3
    simp only [optV,optCV,noC,Option.getD_none,Option.isSome_none,noT,Term.v_eq,Cert.v_eq,op_mk,n_mk,s_mk,kids_mk,encs] at *
    generalize caT = ca at *
    generalize caP = cp at *
    repeat' first|refine s_seqP fun K hK => ?_|(refine stle_of_eq rfl ?_;simp [StLe,leT,leH,A.Le,A.LeL,O.Le,lkp,freeT,freeH,A.free,A.freeL,cond_true,cond_false,nbeq,nble,nblt,decide_true,decide_false,reduceLT,Nat.reduceBEq,true_and,and_true,length_cons,length_nil,true_implies,and_self,Bool.and_true,Bool.true_and,Bool.and_self];done)|apply s_cutT|first|refine s_opt1 ?_|refine s_opt0 ?_|refine s_optq1 ?_|refine s_optq0 ?_|(refine s_norm ?_;try simp only [wsN,wsI,rmv,rng,X.ev,lkp,peel,cond_true,cond_false,nbeq,Nat.reduceBEq,reduceSub,reduceAdd,zero_add,sub_zero,sub_self,length_cons,length_nil,length_append,cons_append,nil_append,append_nil])|(refine s_take fun K hK => ?_)|(refine s_cons (fun K hK => ?_) ?_)|exact s_tnil|refine s_br ?_|refine s_done ?_|refine s_seq fun K hK => ?_|refine s_region ?_|refine s_draw ?_|refine s_tree ?_|refine s_op fun K hK => ?_|refine s_opq fun K hK => ?_|refine s_ops ?_|refine s_endq ?_|simp only [go_sem,reduceToNat,reduceEq,reduceAdd,Nat.reduceBEq,reduceLeDiff,reduceLT,Int.reduceLT,reduceLE,reduceNeg,reduceCtorEq]|(first|(refine hK _ ?_;clear hK K)|(clear hK K;refine hK _ ?_;clear hK K)|(clear hK K;clear hK K;refine hK _ ?_;clear hK K))|refine And.intro ?_ ?_|refine s_call g1 ?_|refine s_call g2 ?_|refine s_call g3 ?_
    all_goals first|(simp [go_sem,tids,A.tid,A.tid.go,cons_append,frzT,St.frz,A.sub,A.subL,O.sub,subT,subH,frzY,frzZ,Post,aret,evRs,RV.ev,tupA,A.Le,A.LeL,lkp,St.frzs,A.ids,A.idsL,cond_true,cond_false,nbeq,nble,decide_true,decide_false,reduceLeDiff,Nat.reduceBEq,reduceAdd,beq_self_eq_true,true_and,and_true,true_implies,append_nil,nil_append,getElem?_cons_zero,getElem?_cons_succ,length_cons,length_nil,drop_zero,take_succ_cons,take_zero,and_self];done)|(simp;done)|skip
  · obtain ⟨hokt,h8,z,hkt⟩:=signed_some hsg
    have hrx : rightT x = true:=right_mem (ok_right hokt) (by rw [hkt];simp)
    rw [hsg] at g3
    simp only [optV,Option.getD_some,Option.isSome_some] at g3
    by_cases hx3 : x.op = 3
    · obtain ⟨a,b,hkx⟩:=two_kids hrx (by rw [hx3];rfl)
      have hrb : rightT b = true:=right_mem hrx (by rw [hkx];simp)
      have dx : decide (x.op = 3) = true:=decide_eq_true hx3
      by_cases hb3 : b.op = 3
      · obtain ⟨p,u,hkb⟩:=two_kids hrb (by rw [hb3];rfl)
        have db : decide (b.op = 3) = true:=decide_eq_true hb3
        have hop : openC t = some (a,p,u):=openC_eq hsg (twoT_eq hx3 hkx) (twoT_eq hb3 hkb)
        have hcn:=open_cnt hop
        have n1:=number1_ct u.s (by omega)
        have hcc : (Cert.mk a.s p (numB u.s)).cnt ≤ 1048576:=by unfold Cert.cnt;simp only;have:=Term.cnt_eq a;omega
        have k1:=certOk1_ct ⟨a.s,p,numB u.s⟩ hcc
        have k2:=certT1_ct ⟨a.s,p,numB u.s⟩ hcc
        have k3:=same1_ct (certT ⟨a.s,p,numB u.s⟩) t
        have hco : certOfT t = bif certB ⟨a.s,p,numB u.s⟩ && eqT (certT ⟨a.s,p,numB u.s⟩) t then some ⟨a.s,p,numB u.s⟩ else none:=by unfold certOfT;rw [hop]
        rw [hco]
        generalize certT ⟨a.s,p,numB u.s⟩ = ct at *
        generalize certB ⟨a.s,p,numB u.s⟩ = cb at *
        generalize eqT ct t = ce at *
        generalize numB u.s = nb at *
        simp only [Term.v_eq,Cert.v_eq,hkx,encs] at g1 g2 g3 k1 k2 k3 n1
        clear hco hop hsg hkt
        generalize caT = ca at *
        generalize caP = cp at *
        cases cb with
        | false =>
          simp only [Bool.false_and,cond_false,optCV,noC,Option.getD_none,Option.isSome_none,noT,Cert.v_eq,op_mk,n_mk,s_mk,kids_mk,encs]
          repeat' first|refine s_seqP fun K hK => ?_|(refine stle_of_eq rfl ?_;simp [StLe,leT,leH,A.Le,A.LeL,O.Le,lkp,freeT,freeH,A.free,A.freeL,cond_true,cond_false,nbeq,nble,nblt,decide_true,decide_false,reduceLT,Nat.reduceBEq,true_and,and_true,length_cons,length_nil,true_implies,and_self,Bool.and_true,Bool.true_and,Bool.and_self];done)|apply s_cutT|first|refine s_opt1 ?_|refine s_opt0 ?_|refine s_optq1 ?_|refine s_optq0 ?_|(refine s_norm ?_;try simp only [wsN,wsI,rmv,rng,X.ev,lkp,peel,cond_true,cond_false,nbeq,Nat.reduceBEq,reduceSub,reduceAdd,zero_add,sub_zero,sub_self,length_cons,length_nil,length_append,cons_append,nil_append,append_nil])|(refine s_take fun K hK => ?_)|(refine s_cons (fun K hK => ?_) ?_)|exact s_tnil|refine s_br ?_|refine s_done ?_|refine s_seq fun K hK => ?_|refine s_region ?_|refine s_draw ?_|refine s_tree ?_|refine s_op fun K hK => ?_|refine s_opq fun K hK => ?_|refine s_ops ?_|refine s_endq ?_|simp only [go_sem,reduceToNat,reduceEq,reduceAdd,Nat.reduceBEq,reduceLeDiff,reduceLT,Int.reduceLT,reduceLE,reduceNeg,reduceCtorEq,dx,db,hkx,hkb,encs,Term.enc_eq,List.getD_cons_zero,List.getD_cons_succ]|(first|(refine hK _ ?_;clear hK K)|(clear hK K;refine hK _ ?_;clear hK K)|(clear hK K;clear hK K;refine hK _ ?_;clear hK K))|refine And.intro ?_ ?_|refine s_call g1 ?_|refine s_call g2 ?_|refine s_call g3 ?_|refine s_call n1 ?_|refine s_call k1 ?_
          all_goals first|(simp [go_sem,tids,A.tid,A.tid.go,cons_append,frzT,St.frz,A.sub,A.subL,O.sub,subT,subH,frzY,frzZ,Post,aret,evRs,RV.ev,tupA,A.Le,A.LeL,lkp,St.frzs,A.ids,A.idsL,cond_true,cond_false,nbeq,nble,decide_true,decide_false,reduceLeDiff,Nat.reduceBEq,reduceAdd,beq_self_eq_true,true_and,and_true,true_implies,append_nil,nil_append,getElem?_cons_zero,getElem?_cons_succ,length_cons,length_nil,drop_zero,take_succ_cons,take_zero,and_self];done)|(simp;done)|skip
        | true =>
          cases ce with
          | false =>
            simp only [Bool.and_false,cond_false,optCV,noC,Option.getD_none,Option.isSome_none,noT,Cert.v_eq,op_mk,n_mk,s_mk,kids_mk,encs]
            repeat' first|refine s_seqP fun K hK => ?_|(refine stle_of_eq rfl ?_;simp [StLe,leT,leH,A.Le,A.LeL,O.Le,lkp,freeT,freeH,A.free,A.freeL,cond_true,cond_false,nbeq,nble,nblt,decide_true,decide_false,reduceLT,Nat.reduceBEq,true_and,and_true,length_cons,length_nil,true_implies,and_self,Bool.and_true,Bool.true_and,Bool.and_self];done)|apply s_cutT|first|refine s_opt1 ?_|refine s_opt0 ?_|refine s_optq1 ?_|refine s_optq0 ?_|(refine s_norm ?_;try simp only [wsN,wsI,rmv,rng,X.ev,lkp,peel,cond_true,cond_false,nbeq,Nat.reduceBEq,reduceSub,reduceAdd,zero_add,sub_zero,sub_self,length_cons,length_nil,length_append,cons_append,nil_append,append_nil])|(refine s_take fun K hK => ?_)|(refine s_cons (fun K hK => ?_) ?_)|exact s_tnil|refine s_br ?_|refine s_done ?_|refine s_seq fun K hK => ?_|refine s_region ?_|refine s_draw ?_|refine s_tree ?_|refine s_op fun K hK => ?_|refine s_opq fun K hK => ?_|refine s_ops ?_|refine s_endq ?_|simp only [go_sem,reduceToNat,reduceEq,reduceAdd,Nat.reduceBEq,reduceLeDiff,reduceLT,Int.reduceLT,reduceLE,reduceNeg,reduceCtorEq,dx,db,hkx,hkb,encs,Term.enc_eq,List.getD_cons_zero,List.getD_cons_succ]|(first|(refine hK _ ?_;clear hK K)|(clear hK K;refine hK _ ?_;clear hK K)|(clear hK K;clear hK K;refine hK _ ?_;clear hK K))|refine And.intro ?_ ?_|refine s_call g1 ?_|refine s_call g2 ?_|refine s_call g3 ?_|refine s_call n1 ?_|refine s_call k1 ?_|refine s_call k2 ?_|refine s_call k3 ?_
            all_goals first|(simp [go_sem,tids,A.tid,A.tid.go,cons_append,frzT,St.frz,A.sub,A.subL,O.sub,subT,subH,frzY,frzZ,Post,aret,evRs,RV.ev,tupA,A.Le,A.LeL,lkp,St.frzs,A.ids,A.idsL,cond_true,cond_false,nbeq,nble,decide_true,decide_false,reduceLeDiff,Nat.reduceBEq,reduceAdd,beq_self_eq_true,true_and,and_true,true_implies,append_nil,nil_append,getElem?_cons_zero,getElem?_cons_succ,length_cons,length_nil,drop_zero,take_succ_cons,take_zero,and_self];done)|(simp;done)|skip
          | true =>
            simp only [Bool.and_self,cond_true,optCV,Option.getD_some,Option.isSome_some,Cert.v_eq]
            repeat' first|refine s_seqP fun K hK => ?_|(refine stle_of_eq rfl ?_;simp [StLe,leT,leH,A.Le,A.LeL,O.Le,lkp,freeT,freeH,A.free,A.freeL,cond_true,cond_false,nbeq,nble,nblt,decide_true,decide_false,reduceLT,Nat.reduceBEq,true_and,and_true,length_cons,length_nil,true_implies,and_self,Bool.and_true,Bool.true_and,Bool.and_self];done)|apply s_cutT|first|refine s_opt1 ?_|refine s_opt0 ?_|refine s_optq1 ?_|refine s_optq0 ?_|(refine s_norm ?_;try simp only [wsN,wsI,rmv,rng,X.ev,lkp,peel,cond_true,cond_false,nbeq,Nat.reduceBEq,reduceSub,reduceAdd,zero_add,sub_zero,sub_self,length_cons,length_nil,length_append,cons_append,nil_append,append_nil])|(refine s_take fun K hK => ?_)|(refine s_cons (fun K hK => ?_) ?_)|exact s_tnil|refine s_br ?_|refine s_done ?_|refine s_seq fun K hK => ?_|refine s_region ?_|refine s_draw ?_|refine s_tree ?_|refine s_op fun K hK => ?_|refine s_opq fun K hK => ?_|refine s_ops ?_|refine s_endq ?_|simp only [go_sem,reduceToNat,reduceEq,reduceAdd,Nat.reduceBEq,reduceLeDiff,reduceLT,Int.reduceLT,reduceLE,reduceNeg,reduceCtorEq,dx,db,hkx,hkb,encs,Term.enc_eq,List.getD_cons_zero,List.getD_cons_succ]|(first|(refine hK _ ?_;clear hK K)|(clear hK K;refine hK _ ?_;clear hK K)|(clear hK K;clear hK K;refine hK _ ?_;clear hK K))|refine And.intro ?_ ?_|refine s_call g1 ?_|refine s_call g2 ?_|refine s_call g3 ?_|refine s_call n1 ?_|refine s_call k1 ?_|refine s_call k2 ?_|refine s_call k3 ?_
            all_goals first|(simp [go_sem,tids,A.tid,A.tid.go,cons_append,frzT,St.frz,A.sub,A.subL,O.sub,subT,subH,frzY,frzZ,Post,aret,evRs,RV.ev,tupA,A.Le,A.LeL,lkp,St.frzs,A.ids,A.idsL,cond_true,cond_false,nbeq,nble,decide_true,decide_false,reduceLeDiff,Nat.reduceBEq,reduceAdd,beq_self_eq_true,true_and,and_true,true_implies,append_nil,nil_append,getElem?_cons_zero,getElem?_cons_succ,length_cons,length_nil,drop_zero,take_succ_cons,take_zero,and_self];done)|(simp;done)|skip
      · have db : decide (b.op = 3) = false:=decide_eq_false hb3
        have hc : certOfT t = none:=certOf_none3 hsg (twoT_eq hx3 hkx) (twoT_ne hb3)
        rw [hc]
        simp only [optCV,noC,Option.getD_none,Option.isSome_none,noT,Term.v_eq,Cert.v_eq,op_mk,n_mk,s_mk,kids_mk,encs,hkx] at *
        generalize caT = ca at *
        generalize caP = cp at *
        repeat' first|refine s_seqP fun K hK => ?_|(refine stle_of_eq rfl ?_;simp [StLe,leT,leH,A.Le,A.LeL,O.Le,lkp,freeT,freeH,A.free,A.freeL,cond_true,cond_false,nbeq,nble,nblt,decide_true,decide_false,reduceLT,Nat.reduceBEq,true_and,and_true,length_cons,length_nil,true_implies,and_self,Bool.and_true,Bool.true_and,Bool.and_self];done)|apply s_cutT|first|refine s_opt1 ?_|refine s_opt0 ?_|refine s_optq1 ?_|refine s_optq0 ?_|(refine s_norm ?_;try simp only [wsN,wsI,rmv,rng,X.ev,lkp,peel,cond_true,cond_false,nbeq,Nat.reduceBEq,reduceSub,reduceAdd,zero_add,sub_zero,sub_self,length_cons,length_nil,length_append,cons_append,nil_append,append_nil])|(refine s_take fun K hK => ?_)|(refine s_cons (fun K hK => ?_) ?_)|exact s_tnil|refine s_br ?_|refine s_done ?_|refine s_seq fun K hK => ?_|refine s_region ?_|refine s_draw ?_|refine s_tree ?_|refine s_op fun K hK => ?_|refine s_opq fun K hK => ?_|refine s_ops ?_|refine s_endq ?_|simp only [go_sem,reduceToNat,reduceEq,reduceAdd,Nat.reduceBEq,reduceLeDiff,reduceLT,Int.reduceLT,reduceLE,reduceNeg,reduceCtorEq,dx,db,hkx,encs,Term.enc_eq,List.getD_cons_zero,List.getD_cons_succ]|(first|(refine hK _ ?_;clear hK K)|(clear hK K;refine hK _ ?_;clear hK K)|(clear hK K;clear hK K;refine hK _ ?_;clear hK K))|refine And.intro ?_ ?_|refine s_call g1 ?_|refine s_call g2 ?_|refine s_call g3 ?_
        all_goals first|(simp [go_sem,tids,A.tid,A.tid.go,cons_append,frzT,St.frz,A.sub,A.subL,O.sub,subT,subH,frzY,frzZ,Post,aret,evRs,RV.ev,tupA,A.Le,A.LeL,lkp,St.frzs,A.ids,A.idsL,cond_true,cond_false,nbeq,nble,decide_true,decide_false,reduceLeDiff,Nat.reduceBEq,reduceAdd,beq_self_eq_true,true_and,and_true,true_implies,append_nil,nil_append,getElem?_cons_zero,getElem?_cons_succ,length_cons,length_nil,drop_zero,take_succ_cons,take_zero,and_self];done)|(simp;done)|skip
    · have dx : decide (x.op = 3) = false:=decide_eq_false hx3
      have hc : certOfT t = none:=certOf_none2 hsg (twoT_ne hx3)
      rw [hc]
      rcases hkk : x.kids with _|⟨a,_|⟨b,kr⟩⟩ <;>
      · simp only [optCV,noC,Option.getD_none,Option.isSome_none,noT,Term.v_eq,Cert.v_eq,op_mk,n_mk,s_mk,kids_mk,encs,hkk] at *
        generalize caT = ca at *
        generalize caP = cp at *
        repeat' first|refine s_seqP fun K hK => ?_|(refine stle_of_eq rfl ?_;simp [StLe,leT,leH,A.Le,A.LeL,O.Le,lkp,freeT,freeH,A.free,A.freeL,cond_true,cond_false,nbeq,nble,nblt,decide_true,decide_false,reduceLT,Nat.reduceBEq,true_and,and_true,length_cons,length_nil,true_implies,and_self,Bool.and_true,Bool.true_and,Bool.and_self];done)|apply s_cutT|first|refine s_opt1 ?_|refine s_opt0 ?_|refine s_optq1 ?_|refine s_optq0 ?_|(refine s_norm ?_;try simp only [wsN,wsI,rmv,rng,X.ev,lkp,peel,cond_true,cond_false,nbeq,Nat.reduceBEq,reduceSub,reduceAdd,zero_add,sub_zero,sub_self,length_cons,length_nil,length_append,cons_append,nil_append,append_nil])|(refine s_take fun K hK => ?_)|(refine s_cons (fun K hK => ?_) ?_)|exact s_tnil|refine s_br ?_|refine s_done ?_|refine s_seq fun K hK => ?_|refine s_region ?_|refine s_draw ?_|refine s_tree ?_|refine s_op fun K hK => ?_|refine s_opq fun K hK => ?_|refine s_ops ?_|refine s_endq ?_|simp only [go_sem,reduceToNat,reduceEq,reduceAdd,Nat.reduceBEq,reduceLeDiff,reduceLT,Int.reduceLT,reduceLE,reduceNeg,reduceCtorEq,dx,hkk,encs,Term.enc_eq]|(first|(refine hK _ ?_;clear hK K)|(clear hK K;refine hK _ ?_;clear hK K)|(clear hK K;clear hK K;refine hK _ ?_;clear hK K))|refine And.intro ?_ ?_|refine s_call g1 ?_|refine s_call g2 ?_|refine s_call g3 ?_
        all_goals first|(simp [go_sem,tids,A.tid,A.tid.go,cons_append,frzT,St.frz,A.sub,A.subL,O.sub,subT,subH,frzY,frzZ,Post,aret,evRs,RV.ev,tupA,A.Le,A.LeL,lkp,St.frzs,A.ids,A.idsL,cond_true,cond_false,nbeq,nble,decide_true,decide_false,reduceLeDiff,Nat.reduceBEq,reduceAdd,beq_self_eq_true,true_and,and_true,true_implies,append_nil,nil_append,getElem?_cons_zero,getElem?_cons_succ,length_cons,length_nil,drop_zero,take_succ_cons,take_zero,and_self];done)|(simp;done)|skip
end Go.Proofs.YtlddcimpdkcgeaaGreatDoor
