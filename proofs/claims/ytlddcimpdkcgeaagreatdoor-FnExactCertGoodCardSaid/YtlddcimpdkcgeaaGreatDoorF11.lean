/- Terms that are equal; their size; what is signed. -/
import Derived.Test.YtlddcimpdkcgeaaGreatDoorF10
set_option linter.unusedVariables false
set_option linter.unusedSimpArgs false
set_option maxRecDepth 20000
set_option maxHeartbeats 4000000
namespace Go.Proofs.YtlddcimpdkcgeaaGreatDoor
open List (length_cons length_nil cons_append nil_append append_nil getElem?_cons_succ getElem?_cons_zero length_append take_succ_cons take_zero drop_zero)
open Nat (reduceLeDiff reduceAdd reduceLT reduceSub sub_self zero_add sub_zero)
open Int (reduceToNat reduceNeg reduceEq reduceLE)
open Go.RowKit Sym
attribute [local irreducible] awp aops aopsQ gop gopQ gopO gopOQ gopV gopT awpN awpT awpTs ACall after
theorem beqS_iff {s t : ByteArray} : beqS s t = true ↔ s = t:=by
  constructor
  · intro h
    simp only [beqS,beq_iff_eq,ByteArray.toList_eq] at h
    cases s;cases t
    simp only [ByteArray.mk.injEq]
    exact Array.toList_inj.1 h
  · rintro rfl;exact beqS_refl s
mutual
theorem eqT_iff : ∀ (t u : Term),eqT t u = true ↔ t = u
  | .mk op n s kids,.mk op' n' s' kids' => by
    rw [eqT,Bool.and_eq_true,Bool.and_eq_true,Bool.and_eq_true]
    refine Iff.trans (and_congr decide_eq_true_iff (and_congr decide_eq_true_iff (and_congr beqS_iff (eqTs_iff kids kids')))) ?_
    rw [Term.mk.injEq]
    exact Iff.rfl
theorem eqTs_iff : ∀ (ts us : List Term),eqTs ts us = true ↔ ts = us
  | [],[] => by simp [eqTs]
  | t :: ts,u :: us => by rw [eqTs,Bool.and_eq_true,eqT_iff t u,eqTs_iff ts us,List.cons.injEq]
  | [],_ :: _ => by simp [eqTs]
  | _ :: _,[] => by simp [eqTs]
end
theorem nods_pos (t : Term) : 1 ≤ t.nods:=by rw [Term.nods_eq];omega
mutual
theorem size_nods : ∀ t : Term,t.nods ≤ 4611686018427387904 → t.size = t.nods
  | .mk op n s kids,h => by
    simp only [Term.nods] at h
    rw [Term.size,sizes_nods kids 1 (by omega) (by omega),Term.nods]
    omega
theorem sizes_nods : ∀ (ts : List Term) (k : Int),0 ≤ k → k + nodsL ts ≤ 4611686018427387904 → sizes k ts = k + nodsL ts
  | [],k,_,_ => by simp [sizes,nodsL]
  | t :: ts,k,h0,h => by
    simp only [nodsL] at h
    have ht:=size_nods t (by omega)
    rw [sizes,ht,w64 (by omega) (by omega),sizes_nods ts _ (by omega) (by omega),nodsL]
    omega
end
theorem size_of {t : Term} (h : t.cnt ≤ 8388608) : t.size = t.nods:=size_nods t (by have:=nods_le t;omega)
theorem ok_right {t : Term} (h : okT t = true) : rightT t = true:=by
  unfold okT at h
  cases hd : decide (t.size ≤ 200) <;> simp [hd] at h
  exact h
theorem ok_size {t : Term} (h : okT t = true) : t.size ≤ 200:=by
  unfold okT at h
  cases hd : decide (t.size ≤ 200) with
  | true => simpa using hd
  | false => simp [hd] at h
theorem ok_iff {t : Term} : okT t = true ↔ t.size ≤ 200 ∧ rightT t = true:=by
  refine ⟨fun h => ⟨ok_size h,ok_right h⟩,fun h => ?_⟩
  unfold okT
  rw [decide_eq_true h.1,h.2]
  rfl
theorem right_iff {t : Term} : rightT t = true ↔ (t.kids.length : Int) = arityT t.op ∧ rightTs t.kids = true ∧ formT t.op t.n t.s t.kids = true:=by
  rw [rightT_eq]
  by_cases h : (t.kids.length : Int) = arityT t.op
  · cases hk : rightTs t.kids <;> simp [h]
  · simp [h]
theorem two_kids {t : Term} (h : rightT t = true) (ha : arityT t.op = 2) : ∃ x y,t.kids = [x,y]:=by
  have:=(right_iff.1 h).1
  rw [ha] at this
  have hl : t.kids.length = 2:=by omega
  match t.kids,hl with
  | [x,y],_ => exact ⟨x,y,rfl⟩
theorem one_kid {t : Term} (h : rightT t = true) (ha : arityT t.op = 1) : ∃ x,t.kids = [x]:=by
  have:=(right_iff.1 h).1
  rw [ha] at this
  have hl : t.kids.length = 1:=by omega
  match t.kids,hl with
  | [x],_ => exact ⟨x,rfl⟩
theorem right_mem {t x : Term} (h : rightT t = true) (hx : x ∈ t.kids) : rightT x = true:=by
  have h2:=(right_iff.1 h).2.1
  revert h2 hx
  generalize t.kids = ts
  intro hx h2
  induction ts with
  | nil => cases hx
  | cons u us ih =>
    simp only [rightTs,Bool.and_eq_true] at h2
    rcases List.mem_cons.1 hx with rfl|hx
    · exact h2.1
    · exact ih hx h2.2
theorem cnt_mem {t x : Term} (hx : x ∈ t.kids) : x.cnt ≤ t.cnt:=by have:=Term.cnt_eq t;have:=cnts_mem hx;omega
theorem form_plain {op n : Int} {s : ByteArray} {kids : List Term} (h1 : op ≠ 1) (h2 : op ≠ 2) (h5 : op ≠ 5) : formT op n s kids = true ↔ n = 0 ∧ s = ⟨#[]⟩:=by
  unfold formT
  rw [if_neg h1,if_neg h2,if_neg h5]
  by_cases hn : n = 0
  · simp [hn,beqS_iff]
  · simp [hn]
def signedT (p t : Term) : Option Term:=match t.kids with
  | [x,y] => if okT t = true ∧ t.op = 8 ∧ eqT p (.mk 4 0 ⟨#[]⟩ [x]) = true then some y else none
  | _ => none
theorem pub_ok {x : Term} (h : rightT x = true) (hs : x.nods ≤ 199) : okT (.mk 4 0 ⟨#[]⟩ [x]) = true:=by
  rw [ok_iff,right_iff]
  refine ⟨?_,by simp [Term.kids,Term.op,arityT],by simp [Term.kids,rightTs,h],(form_plain (op:=4) (by decide) (by decide) (by decide)).2 ⟨rfl,rfl⟩⟩
  rw [size_nods _ (by simp [Term.nods,nodsL];omega)]
  simp [Term.nods,nodsL]
  omega
theorem pub_inv {p : Term} (h : okT p = true) (ho : p.op = 4) : ∃ z,p = .mk 4 0 ⟨#[]⟩ [z]:=by
  obtain ⟨z,hz⟩:=one_kid (ok_right h) (by rw [ho];rfl)
  have:=((right_iff.1 (ok_right h)).2.2)
  rw [ho,form_plain (op:=4) (by decide) (by decide) (by decide)] at this
  refine ⟨z,?_⟩
  cases p
  simp only [Term.op,Term.n,Term.s,Term.kids] at *
  rw [ho,this.1,this.2,hz]
theorem op_mk (op n : Int) (s : ByteArray) (ks : List Term) : (Term.mk op n s ks).op = op:=rfl
theorem n_mk (op n : Int) (s : ByteArray) (ks : List Term) : (Term.mk op n s ks).n = n:=rfl
theorem s_mk (op n : Int) (s : ByteArray) (ks : List Term) : (Term.mk op n s ks).s = s:=rfl
theorem kids_mk (op n : Int) (s : ByteArray) (ks : List Term) : (Term.mk op n s ks).kids = ks:=rfl
@[reducible] def optV (o : Option Term) : A:=.tup [(o.getD noT).v,.d true (.bool o.isSome)]
@[reducible] def optW (o : Option Term) : A:=.tup [(o.getD noT).w,.d true (.bool o.isSome)]
theorem l2pub_ct (x : Term) : Ct Tryz.prog 65 [x.v] (Term.mk 4 0 ⟨#[]⟩ [x]).v:=by
  refine ok65.ct mo Tryz.func65 (by simp) rfl fun hok => ?_
  unfold ac65
  simp only [Term.v_eq,op_mk,n_mk,s_mk,kids_mk,encs,Term.enc_eq]
  repeat' first|assumption|first|refine s_opt1 ?_|refine s_opt0 ?_|refine s_optq1 ?_|refine s_optq0 ?_|(refine s_norm ?_;try simp only [wsN,wsI,rmv,rng,X.ev,lkp,peel,cond_true,cond_false,nbeq,Nat.reduceBEq,reduceSub,reduceAdd,zero_add,sub_zero,sub_self,length_cons,length_nil,length_append,cons_append,nil_append,append_nil])|(refine s_take fun K hK => ?_)|(refine s_cons (fun K hK => ?_) ?_)|exact s_tnil|refine s_br ?_|refine s_done ?_|refine s_seq fun K hK => ?_|refine s_region ?_|refine s_draw ?_|refine s_tree ?_|refine s_op fun K hK => ?_|refine s_opq fun K hK => ?_|refine s_ops ?_|refine s_endq ?_|simp only [go_sem,reduceToNat,reduceEq,reduceAdd,Nat.reduceBEq,reduceLeDiff,reduceLT,Int.reduceLT,reduceLE,reduceNeg,reduceCtorEq]|(first|(refine hK _ ?_;clear hK K)|(clear hK K;refine hK _ ?_;clear hK K)|(clear hK K;clear hK K;refine hK _ ?_;clear hK K))|refine And.intro ?_ ?_
  all_goals first|(simp [go_sem,tids,A.tid,A.tid.go,cons_append,frzT,St.frz,A.sub,A.subL,O.sub,subT,subH,frzY,frzZ,Post,aret,evRs,RV.ev,tupA,A.Le,A.LeL,lkp,St.frzs,A.ids,A.idsL,cond_true,cond_false,nbeq,nble,decide_true,decide_false,reduceLeDiff,Nat.reduceBEq,reduceAdd,beq_self_eq_true,true_and,and_true,true_implies,append_nil,nil_append,getElem?_cons_zero,getElem?_cons_succ,length_cons,length_nil,drop_zero,take_succ_cons,take_zero,and_self];done)|(simp [A.LeL];done)|rfl|(simp [op_mk,n_mk,s_mk,kids_mk,encs,A.Le,A.LeL];done)
theorem signed1_ct (p t : Term) (ht : t.cnt ≤ 4194000) : Ct Tryz.prog 33 [p.v,t.v] (optV (signedT p t)):=by
  refine ok33.ct mo Tryz.func33 (by simp) rfl fun hok => ?_
  unfold ac33
  cases h1 : okT t with
  | false =>
    have hn : signedT p t = none:=by unfold signedT;split <;> simp [h1]
    simp only [hn,optV,Option.getD_none,Option.isSome_none,noT,Term.v_eq,op_mk,n_mk,s_mk,kids_mk,encs]
    have hc:=termOk1_ct t
    rw [h1,Term.v_eq] at hc
    repeat' first|assumption|first|refine s_opt1 ?_|refine s_opt0 ?_|refine s_optq1 ?_|refine s_optq0 ?_|(refine s_norm ?_;try simp only [wsN,wsI,rmv,rng,X.ev,lkp,peel,cond_true,cond_false,nbeq,Nat.reduceBEq,reduceSub,reduceAdd,zero_add,sub_zero,sub_self,length_cons,length_nil,length_append,cons_append,nil_append,append_nil])|(refine s_take fun K hK => ?_)|(refine s_cons (fun K hK => ?_) ?_)|exact s_tnil|refine s_br ?_|refine s_done ?_|refine s_seq fun K hK => ?_|refine s_region ?_|refine s_draw ?_|refine s_tree ?_|refine s_op fun K hK => ?_|refine s_opq fun K hK => ?_|refine s_ops ?_|refine s_endq ?_|simp only [go_sem,reduceToNat,reduceEq,reduceAdd,Nat.reduceBEq,reduceLeDiff,reduceLT,Int.reduceLT,reduceLE,reduceNeg,reduceCtorEq]|(first|(refine hK _ ?_;clear hK K)|(clear hK K;refine hK _ ?_;clear hK K)|(clear hK K;clear hK K;refine hK _ ?_;clear hK K))|refine And.intro ?_ ?_|refine s_call hc ?_|refine s_callq hc rfl ?_
    all_goals first|(simp [go_sem,tids,A.tid,A.tid.go,cons_append,frzT,St.frz,A.sub,A.subL,O.sub,subT,subH,frzY,frzZ,Post,aret,evRs,RV.ev,tupA,A.Le,A.LeL,lkp,St.frzs,A.ids,A.idsL,cond_true,cond_false,nbeq,nble,decide_true,decide_false,reduceLeDiff,Nat.reduceBEq,reduceAdd,beq_self_eq_true,true_and,and_true,true_implies,append_nil,nil_append,getElem?_cons_zero,getElem?_cons_succ,length_cons,length_nil,drop_zero,take_succ_cons,take_zero,and_self];done)|(simp [A.LeL];done)|rfl|(simp [op_mk,n_mk,s_mk,kids_mk,encs,A.Le,A.LeL];done)
  | true =>
    by_cases h2 : t.op = 8
    · obtain ⟨x,y,hk⟩:=two_kids (ok_right h1) (by rw [h2];rfl)
      have hs : signedT p t = bif eqT p (.mk 4 0 ⟨#[]⟩ [x]) then some y else none:=by
        unfold signedT
        rw [hk]
        simp only [h1,h2,true_and]
        cases eqT p (.mk 4 0 ⟨#[]⟩ [x]) <;> simp
      rw [hs]
      have hx : x ∈ t.kids:=by rw [hk];simp
      have hy : y ∈ t.kids:=by rw [hk];simp
      have hc:=termOk1_ct t
      have hp:=l2pub_ct x
      have hq:=same1_ct p (.mk 4 0 ⟨#[]⟩ [x])
      have hcp:=copy_ct y (by have:=cnt_mem hy;omega)
      rw [h1] at hc
      simp only [Term.v_eq,op_mk,n_mk,s_mk,kids_mk,encs,Term.enc_eq] at hc hp hq hcp ⊢
      have hd : decide (t.op = 8) = true:=decide_eq_true h2
      cases he : eqT p (.mk 4 0 ⟨#[]⟩ [x]) with
      | true =>
        rw [he] at hq
        simp only [optV,cond_true,Option.getD_some,Option.isSome_some,Term.v_eq,hk,encs,Term.enc_eq] at *
        repeat' first|assumption|first|refine s_opt1 ?_|refine s_opt0 ?_|refine s_optq1 ?_|refine s_optq0 ?_|(refine s_norm ?_;try simp only [wsN,wsI,rmv,rng,X.ev,lkp,peel,cond_true,cond_false,nbeq,Nat.reduceBEq,reduceSub,reduceAdd,zero_add,sub_zero,sub_self,length_cons,length_nil,length_append,cons_append,nil_append,append_nil])|(refine s_take fun K hK => ?_)|(refine s_cons (fun K hK => ?_) ?_)|exact s_tnil|refine s_br ?_|refine s_done ?_|refine s_seq fun K hK => ?_|refine s_region ?_|refine s_draw ?_|refine s_tree ?_|refine s_op fun K hK => ?_|refine s_opq fun K hK => ?_|refine s_ops ?_|refine s_endq ?_|simp only [go_sem,reduceToNat,reduceEq,reduceAdd,Nat.reduceBEq,reduceLeDiff,reduceLT,Int.reduceLT,reduceLE,reduceNeg,reduceCtorEq,hd,hk,encs,Term.enc_eq,List.getD_cons_zero]|(first|(refine hK _ ?_;clear hK K)|(clear hK K;refine hK _ ?_;clear hK K)|(clear hK K;clear hK K;refine hK _ ?_;clear hK K))|refine And.intro ?_ ?_|refine s_call hc ?_|refine s_callq hc rfl ?_|refine s_call hp ?_|refine s_call hq ?_|refine s_call hcp ?_
        all_goals first|(simp [go_sem,tids,A.tid,A.tid.go,cons_append,frzT,St.frz,A.sub,A.subL,O.sub,subT,subH,frzY,frzZ,Post,aret,evRs,RV.ev,tupA,A.Le,A.LeL,lkp,St.frzs,A.ids,A.idsL,cond_true,cond_false,nbeq,nble,decide_true,decide_false,reduceLeDiff,Nat.reduceBEq,reduceAdd,beq_self_eq_true,true_and,and_true,true_implies,append_nil,nil_append,getElem?_cons_zero,getElem?_cons_succ,length_cons,length_nil,drop_zero,take_succ_cons,take_zero,and_self];done)|(simp [A.LeL];done)|rfl|(simp [op_mk,n_mk,s_mk,kids_mk,encs,A.Le,A.LeL];done)|omega
      | false =>
        rw [he] at hq
        simp only [optV,cond_false,Option.getD_none,Option.isSome_none,noT,Term.v_eq,op_mk,n_mk,s_mk,kids_mk,hk,encs,Term.enc_eq] at *
        repeat' first|assumption|first|refine s_opt1 ?_|refine s_opt0 ?_|refine s_optq1 ?_|refine s_optq0 ?_|(refine s_norm ?_;try simp only [wsN,wsI,rmv,rng,X.ev,lkp,peel,cond_true,cond_false,nbeq,Nat.reduceBEq,reduceSub,reduceAdd,zero_add,sub_zero,sub_self,length_cons,length_nil,length_append,cons_append,nil_append,append_nil])|(refine s_take fun K hK => ?_)|(refine s_cons (fun K hK => ?_) ?_)|exact s_tnil|refine s_br ?_|refine s_done ?_|refine s_seq fun K hK => ?_|refine s_region ?_|refine s_draw ?_|refine s_tree ?_|refine s_op fun K hK => ?_|refine s_opq fun K hK => ?_|refine s_ops ?_|refine s_endq ?_|simp only [go_sem,reduceToNat,reduceEq,reduceAdd,Nat.reduceBEq,reduceLeDiff,reduceLT,Int.reduceLT,reduceLE,reduceNeg,reduceCtorEq,hd,hk,encs,Term.enc_eq,List.getD_cons_zero]|(first|(refine hK _ ?_;clear hK K)|(clear hK K;refine hK _ ?_;clear hK K)|(clear hK K;clear hK K;refine hK _ ?_;clear hK K))|refine And.intro ?_ ?_|refine s_call hc ?_|refine s_callq hc rfl ?_|refine s_call hp ?_|refine s_call hq ?_|refine s_call hcp ?_
        all_goals first|(simp [go_sem,tids,A.tid,A.tid.go,cons_append,frzT,St.frz,A.sub,A.subL,O.sub,subT,subH,frzY,frzZ,Post,aret,evRs,RV.ev,tupA,A.Le,A.LeL,lkp,St.frzs,A.ids,A.idsL,cond_true,cond_false,nbeq,nble,decide_true,decide_false,reduceLeDiff,Nat.reduceBEq,reduceAdd,beq_self_eq_true,true_and,and_true,true_implies,append_nil,nil_append,getElem?_cons_zero,getElem?_cons_succ,length_cons,length_nil,drop_zero,take_succ_cons,take_zero,and_self];done)|(simp [A.LeL];done)|rfl|(simp [op_mk,n_mk,s_mk,kids_mk,encs,A.Le,A.LeL];done)|omega
    · have hn : signedT p t = none:=by unfold signedT;split <;> simp [h2]
      have hd : decide (t.op = 8) = false:=decide_eq_false h2
      simp only [hn,optV,Option.getD_none,Option.isSome_none,noT,Term.v_eq,op_mk,n_mk,s_mk,kids_mk,encs]
      have hc:=termOk1_ct t
      rw [h1,Term.v_eq] at hc
      repeat' first|assumption|first|refine s_opt1 ?_|refine s_opt0 ?_|refine s_optq1 ?_|refine s_optq0 ?_|(refine s_norm ?_;try simp only [wsN,wsI,rmv,rng,X.ev,lkp,peel,cond_true,cond_false,nbeq,Nat.reduceBEq,reduceSub,reduceAdd,zero_add,sub_zero,sub_self,length_cons,length_nil,length_append,cons_append,nil_append,append_nil])|(refine s_take fun K hK => ?_)|(refine s_cons (fun K hK => ?_) ?_)|exact s_tnil|refine s_br ?_|refine s_done ?_|refine s_seq fun K hK => ?_|refine s_region ?_|refine s_draw ?_|refine s_tree ?_|refine s_op fun K hK => ?_|refine s_opq fun K hK => ?_|refine s_ops ?_|refine s_endq ?_|simp only [go_sem,reduceToNat,reduceEq,reduceAdd,Nat.reduceBEq,reduceLeDiff,reduceLT,Int.reduceLT,reduceLE,reduceNeg,reduceCtorEq,hd]|(first|(refine hK _ ?_;clear hK K)|(clear hK K;refine hK _ ?_;clear hK K)|(clear hK K;clear hK K;refine hK _ ?_;clear hK K))|refine And.intro ?_ ?_|refine s_call hc ?_|refine s_callq hc rfl ?_
      all_goals first|(simp [go_sem,tids,A.tid,A.tid.go,cons_append,frzT,St.frz,A.sub,A.subL,O.sub,subT,subH,frzY,frzZ,Post,aret,evRs,RV.ev,tupA,A.Le,A.LeL,lkp,St.frzs,A.ids,A.idsL,cond_true,cond_false,nbeq,nble,decide_true,decide_false,reduceLeDiff,Nat.reduceBEq,reduceAdd,beq_self_eq_true,true_and,and_true,true_implies,append_nil,nil_append,getElem?_cons_zero,getElem?_cons_succ,length_cons,length_nil,drop_zero,take_succ_cons,take_zero,and_self];done)|(simp [A.LeL];done)|rfl|(simp [op_mk,n_mk,s_mk,kids_mk,encs,A.Le,A.LeL];done)
end Go.Proofs.YtlddcimpdkcgeaaGreatDoor
