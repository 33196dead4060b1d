/- What a certificate's term holds, by the program. -/
import Derived.Test.YtlddcimpdkcgeaaGreatDoorE5
import Derived.Test.YtlddcimpdkcgeaaGreatDoorD13
import Derived.Test.YtlddcimpdkcgeaaGreatDoorF13
set_option linter.unusedVariables false
set_option linter.unusedSimpArgs false
set_option maxRecDepth 20000
set_option maxHeartbeats 16000000
namespace Go.Proofs.YtlddcimpdkcgeaaGreatDoor
open List (length_cons length_nil cons_append nil_append append_nil getElem?_cons_succ getElem?_cons_zero length_append take_succ_cons take_zero drop_zero)
open Nat (reduceLeDiff reduceAdd reduceLT reduceSub sub_self zero_add sub_zero)
open Int (reduceToNat reduceNeg reduceEq reduceLE)
open Go Go.RowKit Sym
attribute [local irreducible] awp aops aopsQ gop gopQ gopO gopOQ gopV gopT awpN awpT awpTs ACall after
theorem Cert.w_eq (c : Cert) : c.w = .agg [.d false (.str c.host),.d false (.int .i64 c.pub.op),.d false (.int .i64 c.pub.n),.d false (.str c.pub.s),.d true (.sl (encs c.pub.kids)),.d false (.int .i64 c.til)]:=rfl
theorem s_seqR {P : Program} {t : Tr} {y : AC} {Q : Ex → St → Prop} {σ : St} (h : ∀ K : St → Prop,(∀ σ',awp P y Q σ' → K σ') → awp P (.tree t [1,2,14]) (thenK K Q) σ) : awp P (.seq (.tree t [1,2,14]) y) Q σ:=s_seq h
theorem certOf2_ct (t : Term) (ht : t.cnt ≤ 1048576) : Ct Tryz.prog 14 [t.v] (optCW (certOfT t)):=by
  have g1:=Term.w_v (atom2_ct 1)
  change Ct _ _ _ caT.v at g1
  have hca:=caT_cnt
  have hcp:=caP_cnt
  have g2:=Term.w_v (pub2_ct caT (by omega))
  change Ct _ _ _ caP.v at g2
  have g3:=(signed2_ct caP t (by omega) (by omega)).weak (r':=optV (signedT caP t)) (by simp [A.Le,A.LeL,Term.v,Term.w])
  have hn0 : twoT noT = none:=rfl
  have g0:=twoOf_ct noT
  have e0:=atoi_ct noT.s (by unfold noT;rw [s_mk];decide)
  have hcn : (Cert.mk ⟨#[]⟩ noT 0) = noC:=rfl
  refine ok14.ct mo Tryz.func14 (by simp) rfl fun hok => ?_
  unfold ac14
  rcases hsg : signedT caP t with _|x
  · have hc : certOfT t = none:=certOf_none1 hsg
    rw [hc]
    rw [hsg] at g3
    rw [hn0] at g0
    simp only [optV,optCW,Cert.w_eq,two2V,noC,Option.map_none,Option.getD_none,Option.isSome_none,noT,Term.v_eq,op_mk,n_mk,s_mk,kids_mk,encs] at *
    generalize caT = ca at *
    generalize caP = cp at *
    repeat' first|refine s_seqR fun K hK => ?_|(refine stle_of_eq rfl ?_;simp [StLe,leT,leH,A.Le,A.LeL,O.Le,lkp,freeT,freeH,A.free,A.freeL,cond_true,cond_false,nbeq,nble,nblt,decide_true,decide_false,reduceLT,Nat.reduceBEq,true_and,and_true,length_cons,length_nil,true_implies,and_self,Bool.and_true,Bool.true_and,Bool.and_self];done)|apply s_cutT|first|refine s_opt1 ?_|refine s_opt0 ?_|refine s_optq1 ?_|refine s_optq0 ?_|(refine s_norm ?_;try simp only [wsN,wsI,rmv,rng,X.ev,lkp,peel,cond_true,cond_false,nbeq,Nat.reduceBEq,reduceSub,reduceAdd,zero_add,sub_zero,sub_self,length_cons,length_nil,length_append,cons_append,nil_append,append_nil])|(refine s_take fun K hK => ?_)|(refine s_cons (fun K hK => ?_) ?_)|exact s_tnil|refine s_br ?_|refine s_done ?_|refine s_seq fun K hK => ?_|refine s_region ?_|refine s_draw ?_|refine s_tree ?_|refine s_op fun K hK => ?_|refine s_opq fun K hK => ?_|refine s_ops ?_|refine s_endq ?_|simp only [go_sem,reduceToNat,reduceEq,reduceAdd,Nat.reduceBEq,reduceLeDiff,reduceLT,Int.reduceLT,reduceLE,reduceNeg,reduceCtorEq]|(first|(refine hK _ ?_;clear hK K)|(clear hK K;refine hK _ ?_;clear hK K)|(clear hK K;clear hK K;refine hK _ ?_;clear hK K))|refine And.intro ?_ ?_|refine s_call g1 ?_|refine s_call g2 ?_|refine s_call g3 ?_|refine s_call g0 ?_|refine s_call e0 ?_
    all_goals first|(simp [go_sem,tids,A.tid,A.tid.go,cons_append,frzT,St.frz,A.sub,A.subL,O.sub,subT,subH,frzY,frzZ,Post,aret,evRs,RV.ev,tupA,A.Le,A.LeL,lkp,St.frzs,A.ids,A.idsL,cond_true,cond_false,nbeq,nble,decide_true,decide_false,reduceLeDiff,Nat.reduceBEq,reduceAdd,beq_self_eq_true,true_and,and_true,true_implies,append_nil,nil_append,getElem?_cons_zero,getElem?_cons_succ,length_cons,length_nil,drop_zero,take_succ_cons,take_zero,and_self];done)|(simp;done)|skip
  · have g4:=twoOf_ct x
    rw [hsg] at g3
    simp only [optV,Option.getD_some,Option.isSome_some] at g3
    rcases hx : twoT x with _|⟨a,b⟩
    · have hc : certOfT t = none:=certOf_none2 hsg hx
      rw [hc]
      rw [hn0] at g0
      rw [hx] at g4
      simp only [optV,optCW,Cert.w_eq,two2V,noC,Option.map_none,Option.getD_none,Option.isSome_none,noT,Term.v_eq,op_mk,n_mk,s_mk,kids_mk,encs] at *
      generalize caT = ca at *
      generalize caP = cp at *
      repeat' first|refine s_seqR fun K hK => ?_|(refine stle_of_eq rfl ?_;simp [StLe,leT,leH,A.Le,A.LeL,O.Le,lkp,freeT,freeH,A.free,A.freeL,cond_true,cond_false,nbeq,nble,nblt,decide_true,decide_false,reduceLT,Nat.reduceBEq,true_and,and_true,length_cons,length_nil,true_implies,and_self,Bool.and_true,Bool.true_and,Bool.and_self];done)|apply s_cutT|first|refine s_opt1 ?_|refine s_opt0 ?_|refine s_optq1 ?_|refine s_optq0 ?_|(refine s_norm ?_;try simp only [wsN,wsI,rmv,rng,X.ev,lkp,peel,cond_true,cond_false,nbeq,Nat.reduceBEq,reduceSub,reduceAdd,zero_add,sub_zero,sub_self,length_cons,length_nil,length_append,cons_append,nil_append,append_nil])|(refine s_take fun K hK => ?_)|(refine s_cons (fun K hK => ?_) ?_)|exact s_tnil|refine s_br ?_|refine s_done ?_|refine s_seq fun K hK => ?_|refine s_region ?_|refine s_draw ?_|refine s_tree ?_|refine s_op fun K hK => ?_|refine s_opq fun K hK => ?_|refine s_ops ?_|refine s_endq ?_|simp only [go_sem,reduceToNat,reduceEq,reduceAdd,Nat.reduceBEq,reduceLeDiff,reduceLT,Int.reduceLT,reduceLE,reduceNeg,reduceCtorEq]|(first|(refine hK _ ?_;clear hK K)|(clear hK K;refine hK _ ?_;clear hK K)|(clear hK K;clear hK K;refine hK _ ?_;clear hK K))|refine And.intro ?_ ?_|refine s_call g1 ?_|refine s_call g2 ?_|refine s_call g3 ?_|refine s_call g4 ?_|refine s_call g0 ?_|refine s_call e0 ?_
      all_goals first|(simp [go_sem,tids,A.tid,A.tid.go,cons_append,frzT,St.frz,A.sub,A.subL,O.sub,subT,subH,frzY,frzZ,Post,aret,evRs,RV.ev,tupA,A.Le,A.LeL,lkp,St.frzs,A.ids,A.idsL,cond_true,cond_false,nbeq,nble,decide_true,decide_false,reduceLeDiff,Nat.reduceBEq,reduceAdd,beq_self_eq_true,true_and,and_true,true_implies,append_nil,nil_append,getElem?_cons_zero,getElem?_cons_succ,length_cons,length_nil,drop_zero,take_succ_cons,take_zero,and_self];done)|(simp;done)|skip
    · have g5:=twoOf_ct b
      rw [hx] at g4
      simp only [two2V,Option.map_some,Option.getD_some,Option.isSome_some] at g4
      rcases hb : twoT b with _|⟨p,u⟩
      · have hc : certOfT t = none:=certOf_none3 hsg hx hb
        rw [hc]
        rw [hb] at g5
        simp only [optV,optCW,Cert.w_eq,two2V,noC,Option.map_none,Option.getD_none,Option.isSome_none,noT,Term.v_eq,op_mk,n_mk,s_mk,kids_mk,encs] at *
        generalize caT = ca at *
        generalize caP = cp at *
        repeat' first|refine s_seqR fun K hK => ?_|(refine stle_of_eq rfl ?_;simp [StLe,leT,leH,A.Le,A.LeL,O.Le,lkp,freeT,freeH,A.free,A.freeL,cond_true,cond_false,nbeq,nble,nblt,decide_true,decide_false,reduceLT,Nat.reduceBEq,true_and,and_true,length_cons,length_nil,true_implies,and_self,Bool.and_true,Bool.true_and,Bool.and_self];done)|apply s_cutT|first|refine s_opt1 ?_|refine s_opt0 ?_|refine s_optq1 ?_|refine s_optq0 ?_|(refine s_norm ?_;try simp only [wsN,wsI,rmv,rng,X.ev,lkp,peel,cond_true,cond_false,nbeq,Nat.reduceBEq,reduceSub,reduceAdd,zero_add,sub_zero,sub_self,length_cons,length_nil,length_append,cons_append,nil_append,append_nil])|(refine s_take fun K hK => ?_)|(refine s_cons (fun K hK => ?_) ?_)|exact s_tnil|refine s_br ?_|refine s_done ?_|refine s_seq fun K hK => ?_|refine s_region ?_|refine s_draw ?_|refine s_tree ?_|refine s_op fun K hK => ?_|refine s_opq fun K hK => ?_|refine s_ops ?_|refine s_endq ?_|simp only [go_sem,reduceToNat,reduceEq,reduceAdd,Nat.reduceBEq,reduceLeDiff,reduceLT,Int.reduceLT,reduceLE,reduceNeg,reduceCtorEq]|(first|(refine hK _ ?_;clear hK K)|(clear hK K;refine hK _ ?_;clear hK K)|(clear hK K;clear hK K;refine hK _ ?_;clear hK K))|refine And.intro ?_ ?_|refine s_call g1 ?_|refine s_call g2 ?_|refine s_call g3 ?_|refine s_call g4 ?_|refine s_call g5 ?_|refine s_call e0 ?_
        all_goals first|(simp [go_sem,tids,A.tid,A.tid.go,cons_append,frzT,St.frz,A.sub,A.subL,O.sub,subT,subH,frzY,frzZ,Post,aret,evRs,RV.ev,tupA,A.Le,A.LeL,lkp,St.frzs,A.ids,A.idsL,cond_true,cond_false,nbeq,nble,decide_true,decide_false,reduceLeDiff,Nat.reduceBEq,reduceAdd,beq_self_eq_true,true_and,and_true,true_implies,append_nil,nil_append,getElem?_cons_zero,getElem?_cons_succ,length_cons,length_nil,drop_zero,take_succ_cons,take_zero,and_self];done)|(simp;done)|skip
      · rw [hb] at g5
        simp only [two2V,Option.map_some,Option.getD_some,Option.isSome_some] at g5
        have hop:=openC_eq hsg hx hb
        have hcn:=open_cnt hop
        have e1:=atoi_ct u.s (by omega)
        have hcc : (Cert.mk a.s p (atoiN u.s)).cnt ≤ 1048576:=by unfold Cert.cnt;simp only;have:=Term.cnt_eq a;omega
        have k0:=clone_own p (by omega)
        have k2:=Term.w_v (certT2_ct ⟨a.s,p,atoiN u.s⟩ hcc)
        have k3:=same2_ct (certT ⟨a.s,p,atoiN u.s⟩) t
        rw [certOf_impl hop]
        generalize certT ⟨a.s,p,atoiN u.s⟩ = ct at *
        generalize eqT ct t = ce at *
        generalize atoiN u.s = nb at *
        generalize atoiE u.s = eb at *
        simp only [Term.v_eq,Cert.v_eq] at g1 g2 g3 g4 g5 k0 k2 k3
        clear hop hsg hx hb hcc hcn
        generalize caT = ca at *
        generalize caP = cp at *
        cases eb with
        | true =>
          simp only [Bool.not_true,Bool.false_and,cond_false,optCW,Cert.w_eq,noC,Option.getD_none,Option.isSome_none,noT,op_mk,n_mk,s_mk,kids_mk,encs]
          repeat' first|refine s_seqR fun K hK => ?_|(refine stle_of_eq rfl ?_;simp [StLe,leT,leH,A.Le,A.LeL,O.Le,lkp,freeT,freeH,A.free,A.freeL,cond_true,cond_false,nbeq,nble,nblt,decide_true,decide_false,reduceLT,Nat.reduceBEq,true_and,and_true,length_cons,length_nil,true_implies,and_self,Bool.and_true,Bool.true_and,Bool.and_self];done)|apply s_cutT|first|refine s_opt1 ?_|refine s_opt0 ?_|refine s_optq1 ?_|refine s_optq0 ?_|(refine s_norm ?_;try simp only [wsN,wsI,rmv,rng,X.ev,lkp,peel,cond_true,cond_false,nbeq,Nat.reduceBEq,reduceSub,reduceAdd,zero_add,sub_zero,sub_self,length_cons,length_nil,length_append,cons_append,nil_append,append_nil])|(refine s_take fun K hK => ?_)|(refine s_cons (fun K hK => ?_) ?_)|exact s_tnil|refine s_br ?_|refine s_done ?_|refine s_seq fun K hK => ?_|refine s_region ?_|refine s_draw ?_|refine s_tree ?_|refine s_op fun K hK => ?_|refine s_opq fun K hK => ?_|refine s_ops ?_|refine s_endq ?_|simp only [go_sem,reduceToNat,reduceEq,reduceAdd,Nat.reduceBEq,reduceLeDiff,reduceLT,Int.reduceLT,reduceLE,reduceNeg,reduceCtorEq]|(first|(refine hK _ ?_;clear hK K)|(clear hK K;refine hK _ ?_;clear hK K)|(clear hK K;clear hK K;refine hK _ ?_;clear hK K))|refine And.intro ?_ ?_|refine s_call g1 ?_|refine s_call g2 ?_|refine s_call g3 ?_|refine s_call g4 ?_|refine s_call g5 ?_|refine s_call e1 ?_
          all_goals first|(simp [go_sem,tids,A.tid,A.tid.go,cons_append,frzT,St.frz,A.sub,A.subL,O.sub,subT,subH,frzY,frzZ,Post,aret,evRs,RV.ev,tupA,A.Le,A.LeL,lkp,St.frzs,A.ids,A.idsL,cond_true,cond_false,nbeq,nble,decide_true,decide_false,reduceLeDiff,Nat.reduceBEq,reduceAdd,beq_self_eq_true,true_and,and_true,true_implies,append_nil,nil_append,getElem?_cons_zero,getElem?_cons_succ,length_cons,length_nil,drop_zero,take_succ_cons,take_zero,and_self];done)|(simp;done)|skip
        | false =>
          by_cases h8 : ct.op = 8
          · have d8 : decide (ct.op = 8) = true:=decide_eq_true h8
            cases ce with
            | false =>
              simp only [Bool.and_false,cond_false,optCW,Cert.w_eq,noC,Option.getD_none,Option.isSome_none,noT,op_mk,n_mk,s_mk,kids_mk,encs]
              repeat' first|refine s_seqR fun K hK => ?_|(refine stle_of_eq rfl ?_;simp [StLe,leT,leH,A.Le,A.LeL,O.Le,lkp,freeT,freeH,A.free,A.freeL,cond_true,cond_false,nbeq,nble,nblt,decide_true,decide_false,reduceLT,Nat.reduceBEq,true_and,and_true,length_cons,length_nil,true_implies,and_self,Bool.and_true,Bool.true_and,Bool.and_self];done)|apply s_cutT|first|refine s_opt1 ?_|refine s_opt0 ?_|refine s_optq1 ?_|refine s_optq0 ?_|(refine s_norm ?_;try simp only [wsN,wsI,rmv,rng,X.ev,lkp,peel,cond_true,cond_false,nbeq,Nat.reduceBEq,reduceSub,reduceAdd,zero_add,sub_zero,sub_self,length_cons,length_nil,length_append,cons_append,nil_append,append_nil])|(refine s_take fun K hK => ?_)|(refine s_cons (fun K hK => ?_) ?_)|exact s_tnil|refine s_br ?_|refine s_done ?_|refine s_seq fun K hK => ?_|refine s_region ?_|refine s_draw ?_|refine s_tree ?_|refine s_op fun K hK => ?_|refine s_opq fun K hK => ?_|refine s_ops ?_|refine s_endq ?_|simp only [go_sem,reduceToNat,reduceEq,reduceAdd,Nat.reduceBEq,reduceLeDiff,reduceLT,Int.reduceLT,reduceLE,reduceNeg,reduceCtorEq,d8]|(first|(refine hK _ ?_;clear hK K)|(clear hK K;refine hK _ ?_;clear hK K)|(clear hK K;clear hK K;refine hK _ ?_;clear hK K))|refine And.intro ?_ ?_|refine s_call g1 ?_|refine s_call g2 ?_|refine s_call g3 ?_|refine s_call g4 ?_|refine s_call g5 ?_|refine s_call e1 ?_|refine s_call k0 ?_|refine s_call k2 ?_|refine s_call k3 ?_
              all_goals first|(simp [go_sem,tids,A.tid,A.tid.go,cons_append,frzT,St.frz,A.sub,A.subL,O.sub,subT,subH,frzY,frzZ,Post,aret,evRs,RV.ev,tupA,A.Le,A.LeL,lkp,St.frzs,A.ids,A.idsL,cond_true,cond_false,nbeq,nble,decide_true,decide_false,reduceLeDiff,Nat.reduceBEq,reduceAdd,beq_self_eq_true,true_and,and_true,true_implies,append_nil,nil_append,getElem?_cons_zero,getElem?_cons_succ,length_cons,length_nil,drop_zero,take_succ_cons,take_zero,and_self];done)|(simp;done)|skip
            | true =>
              simp only [d8,Bool.not_false,Bool.and_self,cond_true,optCW,Cert.w_eq,Option.getD_some,Option.isSome_some]
              repeat' first|refine s_seqR fun K hK => ?_|(refine stle_of_eq rfl ?_;simp [StLe,leT,leH,A.Le,A.LeL,O.Le,lkp,freeT,freeH,A.free,A.freeL,cond_true,cond_false,nbeq,nble,nblt,decide_true,decide_false,reduceLT,Nat.reduceBEq,true_and,and_true,length_cons,length_nil,true_implies,and_self,Bool.and_true,Bool.true_and,Bool.and_self];done)|apply s_cutT|first|refine s_opt1 ?_|refine s_opt0 ?_|refine s_optq1 ?_|refine s_optq0 ?_|(refine s_norm ?_;try simp only [wsN,wsI,rmv,rng,X.ev,lkp,peel,cond_true,cond_false,nbeq,Nat.reduceBEq,reduceSub,reduceAdd,zero_add,sub_zero,sub_self,length_cons,length_nil,length_append,cons_append,nil_append,append_nil])|(refine s_take fun K hK => ?_)|(refine s_cons (fun K hK => ?_) ?_)|exact s_tnil|refine s_br ?_|refine s_done ?_|refine s_seq fun K hK => ?_|refine s_region ?_|refine s_draw ?_|refine s_tree ?_|refine s_op fun K hK => ?_|refine s_opq fun K hK => ?_|refine s_ops ?_|refine s_endq ?_|simp only [go_sem,reduceToNat,reduceEq,reduceAdd,Nat.reduceBEq,reduceLeDiff,reduceLT,Int.reduceLT,reduceLE,reduceNeg,reduceCtorEq,d8]|(first|(refine hK _ ?_;clear hK K)|(clear hK K;refine hK _ ?_;clear hK K)|(clear hK K;clear hK K;refine hK _ ?_;clear hK K))|refine And.intro ?_ ?_|refine s_call g1 ?_|refine s_call g2 ?_|refine s_call g3 ?_|refine s_call g4 ?_|refine s_call g5 ?_|refine s_call e1 ?_|refine s_call k0 ?_|refine s_call k2 ?_|refine s_call k3 ?_
              all_goals first|(simp [go_sem,tids,A.tid,A.tid.go,cons_append,frzT,St.frz,A.sub,A.subL,O.sub,subT,subH,frzY,frzZ,Post,aret,evRs,RV.ev,tupA,A.Le,A.LeL,lkp,St.frzs,A.ids,A.idsL,cond_true,cond_false,nbeq,nble,decide_true,decide_false,reduceLeDiff,Nat.reduceBEq,reduceAdd,beq_self_eq_true,true_and,and_true,true_implies,append_nil,nil_append,getElem?_cons_zero,getElem?_cons_succ,length_cons,length_nil,drop_zero,take_succ_cons,take_zero,and_self];done)|(simp;done)|skip
          · have d8 : decide (ct.op = 8) = false:=decide_eq_false h8
            simp only [d8,Bool.false_and,Bool.and_false,cond_false,optCW,Cert.w_eq,noC,Option.getD_none,Option.isSome_none,noT,op_mk,n_mk,s_mk,kids_mk,encs]
            repeat' first|refine s_seqR fun K hK => ?_|(refine stle_of_eq rfl ?_;simp [StLe,leT,leH,A.Le,A.LeL,O.Le,lkp,freeT,freeH,A.free,A.freeL,cond_true,cond_false,nbeq,nble,nblt,decide_true,decide_false,reduceLT,Nat.reduceBEq,true_and,and_true,length_cons,length_nil,true_implies,and_self,Bool.and_true,Bool.true_and,Bool.and_self];done)|apply s_cutT|first|refine s_opt1 ?_|refine s_opt0 ?_|refine s_optq1 ?_|refine s_optq0 ?_|(refine s_norm ?_;try simp only [wsN,wsI,rmv,rng,X.ev,lkp,peel,cond_true,cond_false,nbeq,Nat.reduceBEq,reduceSub,reduceAdd,zero_add,sub_zero,sub_self,length_cons,length_nil,length_append,cons_append,nil_append,append_nil])|(refine s_take fun K hK => ?_)|(refine s_cons (fun K hK => ?_) ?_)|exact s_tnil|refine s_br ?_|refine s_done ?_|refine s_seq fun K hK => ?_|refine s_region ?_|refine s_draw ?_|refine s_tree ?_|refine s_op fun K hK => ?_|refine s_opq fun K hK => ?_|refine s_ops ?_|refine s_endq ?_|simp only [go_sem,reduceToNat,reduceEq,reduceAdd,Nat.reduceBEq,reduceLeDiff,reduceLT,Int.reduceLT,reduceLE,reduceNeg,reduceCtorEq,d8]|(first|(refine hK _ ?_;clear hK K)|(clear hK K;refine hK _ ?_;clear hK K)|(clear hK K;clear hK K;refine hK _ ?_;clear hK K))|refine And.intro ?_ ?_|refine s_call g1 ?_|refine s_call g2 ?_|refine s_call g3 ?_|refine s_call g4 ?_|refine s_call g5 ?_|refine s_call e1 ?_|refine s_call k0 ?_|refine s_call k2 ?_|refine s_call k3 ?_
            all_goals first|(simp [go_sem,tids,A.tid,A.tid.go,cons_append,frzT,St.frz,A.sub,A.subL,O.sub,subT,subH,frzY,frzZ,Post,aret,evRs,RV.ev,tupA,A.Le,A.LeL,lkp,St.frzs,A.ids,A.idsL,cond_true,cond_false,nbeq,nble,decide_true,decide_false,reduceLeDiff,Nat.reduceBEq,reduceAdd,beq_self_eq_true,true_and,and_true,true_implies,append_nil,nil_append,getElem?_cons_zero,getElem?_cons_succ,length_cons,length_nil,drop_zero,take_succ_cons,take_zero,and_self];done)|(simp;done)|skip
end Go.Proofs.YtlddcimpdkcgeaaGreatDoor
