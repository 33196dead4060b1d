/- The makers of terms. -/
import Derived.Test.YtlddcimpdkcgeaaGreatDoorF8
set_option linter.unusedVariables false
set_option linter.unusedSimpArgs false
set_option maxRecDepth 20000
set_option maxHeartbeats 2000000
namespace Go.Proofs.YtlddcimpdkcgeaaGreatDoor
open List (length_cons length_nil cons_append nil_append append_nil getElem?_cons_succ getElem?_cons_zero take_succ_cons take_zero drop_zero)
open Nat (reduceLeDiff reduceAdd reduceLT)
open Int (reduceToNat reduceNeg reduceEq reduceLE)
open Go.RowKit Sym
theorem nods_le : ∀ t : Term,t.nods ≤ 1 + t.cnt:=by
  intro t
  refine Term.ind (p:=fun t => t.nods ≤ 1 + t.cnt) (fun t ih => ?_) t
  rw [Term.nods_eq,Term.cnt_eq]
  have : nodsL t.kids ≤ t.kids.length + cnts t.kids:=by
    revert ih
    generalize t.kids = ts
    intro ih
    induction ts with
    | nil => simp [nodsL]
    | cons u us ih2 =>
      have h1:=ih u (by simp)
      have h2:=ih2 (fun x hx => ih x (by simp [hx]))
      simp only [nodsL,length_cons,cnts]
      omega
  omega
theorem sz0 : (⟨#[]⟩ : ByteArray).size = 0:=rfl
theorem rightOr_cnt (t : Term) : (rightOr t).cnt ≤ t.cnt:=by
  unfold rightOr
  cases okT t with
  | true => simp
  | false => simp [noT,Term.cnt,cnts,sz0]
theorem atom1_ct (n : Int) : Ct Tryz.prog 35 [.d false (.int .i64 n)] (rightOr (.mk 1 n ⟨#[]⟩ [])).v:=by
  have h:=ok3_ct (.mk 1 n ⟨#[]⟩ [])
  generalize rightOr (.mk 1 n ⟨#[]⟩ []) = g at *
  simp only [Term.v_eq (.mk _ _ _ _),Term.op,Term.n,Term.s,Term.kids,encs] at h
  refine ok35.ct mo Tryz.func35 (by simp) rfl fun hok => ?_
  unfold ac35
  repeat first|refine s_seq fun K hK => ?_|(refine s_region ?_;simp only [go_sem,reduceToNat,reduceEq,reduceAdd,Nat.reduceBEq,reduceLeDiff,reduceLT,Int.reduceLT,reduceLE,reduceNeg,reduceCtorEq])|(refine s_tree ?_;simp only [go_sem,reduceToNat,reduceEq,reduceAdd,Nat.reduceBEq,reduceLeDiff,reduceLT,Int.reduceLT,reduceLE,reduceNeg,reduceCtorEq])|(refine s_draw ?_;simp only [go_sem,reduceToNat,reduceEq,reduceAdd,Nat.reduceBEq,reduceLeDiff,reduceLT,Int.reduceLT,reduceLE,reduceNeg,reduceCtorEq])|(first|(refine hK _ ?_;clear hK K)|(clear hK K;refine hK _ ?_;clear hK K)|(clear hK K;clear hK K;refine hK _ ?_;clear hK K))|simp only [Bool.not_true,Bool.not_false,Bool.false_eq_true,Bool.true_eq_false,reduceCtorEq,false_implies,true_implies,true_and,and_true,X.ev,lkp,cond_true,cond_false,nbeq,beq_self_eq_true,Nat.reduceBEq,awp_skip,awp_ret,awp_exit,awp_block,awp_cond,thenK_norm,thenK_ret,thenK_exit,blockK_norm,blockK_ret,blockK_exit]|simp only [go_sem,reduceToNat,reduceEq,reduceAdd,Nat.reduceBEq,reduceLeDiff,reduceLT,Int.reduceLT,reduceLE,reduceNeg,reduceCtorEq]
  refine s_call h ?_
  repeat first|refine s_seq fun K hK => ?_|(refine s_region ?_;simp only [go_sem,reduceToNat,reduceEq,reduceAdd,Nat.reduceBEq,reduceLeDiff,reduceLT,Int.reduceLT,reduceLE,reduceNeg,reduceCtorEq])|(refine s_tree ?_;simp only [go_sem,reduceToNat,reduceEq,reduceAdd,Nat.reduceBEq,reduceLeDiff,reduceLT,Int.reduceLT,reduceLE,reduceNeg,reduceCtorEq])|(refine s_draw ?_;simp only [go_sem,reduceToNat,reduceEq,reduceAdd,Nat.reduceBEq,reduceLeDiff,reduceLT,Int.reduceLT,reduceLE,reduceNeg,reduceCtorEq])|(first|(refine hK _ ?_;clear hK K)|(clear hK K;refine hK _ ?_;clear hK K)|(clear hK K;clear hK K;refine hK _ ?_;clear hK K))|simp only [Bool.not_true,Bool.not_false,Bool.false_eq_true,Bool.true_eq_false,reduceCtorEq,false_implies,true_implies,true_and,and_true,X.ev,lkp,cond_true,cond_false,nbeq,beq_self_eq_true,Nat.reduceBEq,awp_skip,awp_ret,awp_exit,awp_block,awp_cond,thenK_norm,thenK_ret,thenK_exit,blockK_norm,blockK_ret,blockK_exit]|simp only [go_sem,reduceToNat,reduceEq,reduceAdd,Nat.reduceBEq,reduceLeDiff,reduceLT,Int.reduceLT,reduceLE,reduceNeg,reduceCtorEq]
  simp [go_sem,tids,A.tid,A.tid.go,cons_append,frzT,St.frz,A.sub,A.subL,O.sub,subT,subH,frzY,frzZ,Post,aret,evRs,RV.ev,tupA,A.Le,A.LeL,lkp,St.frzs,A.ids,A.idsL,cond_true,cond_false,nbeq,nble,decide_true,decide_false,reduceLeDiff,Nat.reduceBEq,reduceAdd,beq_self_eq_true,true_and,and_true,true_implies,append_nil,nil_append,getElem?_cons_zero,getElem?_cons_succ,length_cons,length_nil,drop_zero,take_succ_cons,take_zero,and_self]
theorem atom2_ct (n : Int) : Ct Tryz.prog 40 [.d false (.int .i64 n)] (rightOr (.mk 1 n ⟨#[]⟩ [])).w:=by
  have h:=right_ct (.mk 1 n ⟨#[]⟩ []) (by simp [Term.cnt,cnts,sz0])
  generalize rightOr (.mk 1 n ⟨#[]⟩ []) = g at *
  simp only [Term.v_eq (.mk _ _ _ _),Term.op,Term.n,Term.s,Term.kids,encs] at h
  refine ok40.ct mo Tryz.func40 (by simp) rfl fun hok => ?_
  unfold ac40
  repeat first|refine s_seq fun K hK => ?_|(refine s_region ?_;simp only [go_sem,reduceToNat,reduceEq,reduceAdd,Nat.reduceBEq,reduceLeDiff,reduceLT,Int.reduceLT,reduceLE,reduceNeg,reduceCtorEq])|(refine s_tree ?_;simp only [go_sem,reduceToNat,reduceEq,reduceAdd,Nat.reduceBEq,reduceLeDiff,reduceLT,Int.reduceLT,reduceLE,reduceNeg,reduceCtorEq])|(refine s_draw ?_;simp only [go_sem,reduceToNat,reduceEq,reduceAdd,Nat.reduceBEq,reduceLeDiff,reduceLT,Int.reduceLT,reduceLE,reduceNeg,reduceCtorEq])|(first|(refine hK _ ?_;clear hK K)|(clear hK K;refine hK _ ?_;clear hK K)|(clear hK K;clear hK K;refine hK _ ?_;clear hK K))|simp only [Bool.not_true,Bool.not_false,Bool.false_eq_true,Bool.true_eq_false,reduceCtorEq,false_implies,true_implies,true_and,and_true,X.ev,lkp,cond_true,cond_false,nbeq,beq_self_eq_true,Nat.reduceBEq,awp_skip,awp_ret,awp_exit,awp_block,awp_cond,thenK_norm,thenK_ret,thenK_exit,blockK_norm,blockK_ret,blockK_exit]|simp only [go_sem,reduceToNat,reduceEq,reduceAdd,Nat.reduceBEq,reduceLeDiff,reduceLT,Int.reduceLT,reduceLE,reduceNeg,reduceCtorEq]
  refine s_call h ?_
  repeat first|refine s_seq fun K hK => ?_|(refine s_region ?_;simp only [go_sem,reduceToNat,reduceEq,reduceAdd,Nat.reduceBEq,reduceLeDiff,reduceLT,Int.reduceLT,reduceLE,reduceNeg,reduceCtorEq])|(refine s_tree ?_;simp only [go_sem,reduceToNat,reduceEq,reduceAdd,Nat.reduceBEq,reduceLeDiff,reduceLT,Int.reduceLT,reduceLE,reduceNeg,reduceCtorEq])|(refine s_draw ?_;simp only [go_sem,reduceToNat,reduceEq,reduceAdd,Nat.reduceBEq,reduceLeDiff,reduceLT,Int.reduceLT,reduceLE,reduceNeg,reduceCtorEq])|(first|(refine hK _ ?_;clear hK K)|(clear hK K;refine hK _ ?_;clear hK K)|(clear hK K;clear hK K;refine hK _ ?_;clear hK K))|simp only [Bool.not_true,Bool.not_false,Bool.false_eq_true,Bool.true_eq_false,reduceCtorEq,false_implies,true_implies,true_and,and_true,X.ev,lkp,cond_true,cond_false,nbeq,beq_self_eq_true,Nat.reduceBEq,awp_skip,awp_ret,awp_exit,awp_block,awp_cond,thenK_norm,thenK_ret,thenK_exit,blockK_norm,blockK_ret,blockK_exit]|simp only [go_sem,reduceToNat,reduceEq,reduceAdd,Nat.reduceBEq,reduceLeDiff,reduceLT,Int.reduceLT,reduceLE,reduceNeg,reduceCtorEq]
  simp [go_sem,tids,A.tid,A.tid.go,cons_append,frzT,St.frz,A.sub,A.subL,O.sub,subT,subH,frzY,frzZ,Post,aret,evRs,RV.ev,tupA,A.Le,A.LeL,lkp,St.frzs,A.ids,A.idsL,cond_true,cond_false,nbeq,nble,decide_true,decide_false,reduceLeDiff,Nat.reduceBEq,reduceAdd,beq_self_eq_true,true_and,and_true,true_implies,append_nil,nil_append,getElem?_cons_zero,getElem?_cons_succ,length_cons,length_nil,drop_zero,take_succ_cons,take_zero,and_self]
theorem pub1_ct (a : Term) (ha : a.cnt ≤ 4194000) : Ct Tryz.prog 34 [a.v] (rightOr (.mk 4 0 ⟨#[]⟩ [a])).v:=by
  have h:=ok3_ct (.mk 4 0 ⟨#[]⟩ [a])
  generalize rightOr (.mk 4 0 ⟨#[]⟩ [a]) = g at *
  simp only [Term.v_eq (.mk _ _ _ _),Term.op,Term.n,Term.s,Term.kids,encs,Term.enc_eq] at h
  have hca:=copy_ct a (by omega)
  refine ok34.ct mo Tryz.func34 (by simp) rfl fun hok => ?_
  unfold ac34
  rw [Term.v_eq a]
  repeat' first|first|simp only [go_sem,reduceToNat,reduceEq,reduceAdd,Nat.reduceBEq,reduceLeDiff,reduceLT,Int.reduceLT,reduceLE,reduceNeg,reduceCtorEq]|refine s_seq fun K hK => ?_|refine s_region ?_|refine s_tree ?_|refine s_draw ?_|(first|(refine hK _ ?_;clear hK K)|(clear hK K;refine hK _ ?_;clear hK K)|(clear hK K;clear hK K;refine hK _ ?_;clear hK K))|refine And.intro ?_ ?_|refine s_call hca ?_|refine s_call h ?_
  all_goals first|(simp [go_sem,tids,A.tid,A.tid.go,cons_append,frzT,St.frz,A.sub,A.subL,O.sub,subT,subH,frzY,frzZ,Post,aret,evRs,RV.ev,tupA,A.Le,A.LeL,lkp,St.frzs,A.ids,A.idsL,cond_true,cond_false,nbeq,nble,decide_true,decide_false,reduceLeDiff,Nat.reduceBEq,reduceAdd,beq_self_eq_true,true_and,and_true,true_implies,append_nil,nil_append,getElem?_cons_zero,getElem?_cons_succ,length_cons,length_nil,drop_zero,take_succ_cons,take_zero,and_self];done)|(simp [A.LeL];done)
theorem pub2_ct (a : Term) (ha : a.cnt ≤ 4194000) : Ct Tryz.prog 39 [a.v] (rightOr (.mk 4 0 ⟨#[]⟩ [a])).w:=by
  have h:=right_ct (.mk 4 0 ⟨#[]⟩ [a]) (by simp [Term.cnt,cnts,sz0];omega)
  generalize rightOr (.mk 4 0 ⟨#[]⟩ [a]) = g at *
  simp only [Term.v_eq (.mk _ _ _ _),Term.op,Term.n,Term.s,Term.kids,encs,Term.enc_eq] at h
  refine ok39.ct mo Tryz.func39 (by simp) rfl fun hok => ?_
  unfold ac39
  rw [Term.v_eq a]
  repeat' first|first|simp only [go_sem,reduceToNat,reduceEq,reduceAdd,Nat.reduceBEq,reduceLeDiff,reduceLT,Int.reduceLT,reduceLE,reduceNeg,reduceCtorEq]|refine s_seq fun K hK => ?_|refine s_region ?_|refine s_tree ?_|refine s_draw ?_|(first|(refine hK _ ?_;clear hK K)|(clear hK K;refine hK _ ?_;clear hK K)|(clear hK K;clear hK K;refine hK _ ?_;clear hK K))|refine And.intro ?_ ?_|refine s_call h ?_
  all_goals first|(simp [go_sem,tids,A.tid,A.tid.go,cons_append,frzT,St.frz,A.sub,A.subL,O.sub,subT,subH,frzY,frzZ,Post,aret,evRs,RV.ev,tupA,A.Le,A.LeL,lkp,St.frzs,A.ids,A.idsL,cond_true,cond_false,nbeq,nble,decide_true,decide_false,reduceLeDiff,Nat.reduceBEq,reduceAdd,beq_self_eq_true,true_and,and_true,true_implies,append_nil,nil_append,getElem?_cons_zero,getElem?_cons_succ,length_cons,length_nil,drop_zero,take_succ_cons,take_zero,and_self];done)|(simp [A.LeL];done)
theorem pair1_ct (a b : Term) (ha : a.cnt ≤ 4194000) (hb : b.cnt ≤ 4194000) : Ct Tryz.prog 56 [a.v,b.v] (rightOr (.mk 3 0 ⟨#[]⟩ [a,b])).v:=by
  have h:=two3_ct 3 a b ha hb
  generalize rightOr (.mk 3 0 ⟨#[]⟩ [a,b]) = g at *
  refine ok56.ct mo Tryz.func56 (by simp) rfl fun hok => ?_
  unfold ac56
  rw [Term.v_eq a,Term.v_eq b] at *
  repeat' first|first|simp only [go_sem,reduceToNat,reduceEq,reduceAdd,Nat.reduceBEq,reduceLeDiff,reduceLT,Int.reduceLT,reduceLE,reduceNeg,reduceCtorEq]|refine s_seq fun K hK => ?_|refine s_region ?_|refine s_tree ?_|refine s_draw ?_|(first|(refine hK _ ?_;clear hK K)|(clear hK K;refine hK _ ?_;clear hK K)|(clear hK K;clear hK K;refine hK _ ?_;clear hK K))|refine And.intro ?_ ?_|refine s_call h ?_
  all_goals first|(simp [go_sem,tids,A.tid,A.tid.go,cons_append,frzT,St.frz,A.sub,A.subL,O.sub,subT,subH,frzY,frzZ,Post,aret,evRs,RV.ev,tupA,A.Le,A.LeL,lkp,St.frzs,A.ids,A.idsL,cond_true,cond_false,nbeq,nble,decide_true,decide_false,reduceLeDiff,Nat.reduceBEq,reduceAdd,beq_self_eq_true,true_and,and_true,true_implies,append_nil,nil_append,getElem?_cons_zero,getElem?_cons_succ,length_cons,length_nil,drop_zero,take_succ_cons,take_zero,and_self];done)|(simp [A.LeL];done)
theorem pair2_ct (a b : Term) (ha : a.cnt ≤ 4194000) (hb : b.cnt ≤ 4194000) : Ct Tryz.prog 47 [a.v,b.v] (rightOr (.mk 3 0 ⟨#[]⟩ [a,b])).w:=by
  have h:=right_ct (.mk 3 0 ⟨#[]⟩ [a,b]) (by simp [Term.cnt,cnts,sz0];omega)
  generalize rightOr (.mk 3 0 ⟨#[]⟩ [a,b]) = g at *
  simp only [Term.v_eq (.mk _ _ _ _),Term.op,Term.n,Term.s,Term.kids,encs,Term.enc_eq] at h
  refine ok47.ct mo Tryz.func47 (by simp) rfl fun hok => ?_
  unfold ac47
  rw [Term.v_eq a,Term.v_eq b]
  repeat' first|first|simp only [go_sem,reduceToNat,reduceEq,reduceAdd,Nat.reduceBEq,reduceLeDiff,reduceLT,Int.reduceLT,reduceLE,reduceNeg,reduceCtorEq]|refine s_seq fun K hK => ?_|refine s_region ?_|refine s_tree ?_|refine s_draw ?_|(first|(refine hK _ ?_;clear hK K)|(clear hK K;refine hK _ ?_;clear hK K)|(clear hK K;clear hK K;refine hK _ ?_;clear hK K))|refine And.intro ?_ ?_|refine s_call h ?_
  all_goals first|(simp [go_sem,tids,A.tid,A.tid.go,cons_append,frzT,St.frz,A.sub,A.subL,O.sub,subT,subH,frzY,frzZ,Post,aret,evRs,RV.ev,tupA,A.Le,A.LeL,lkp,St.frzs,A.ids,A.idsL,cond_true,cond_false,nbeq,nble,decide_true,decide_false,reduceLeDiff,Nat.reduceBEq,reduceAdd,beq_self_eq_true,true_and,and_true,true_implies,append_nil,nil_append,getElem?_cons_zero,getElem?_cons_succ,length_cons,length_nil,drop_zero,take_succ_cons,take_zero,and_self];done)|(simp [A.LeL];done)
theorem sign1_ct (a b : Term) (ha : a.cnt ≤ 4194000) (hb : b.cnt ≤ 4194000) : Ct Tryz.prog 55 [a.v,b.v] (rightOr (.mk 8 0 ⟨#[]⟩ [a,b])).v:=by
  have h:=two3_ct 8 a b ha hb
  generalize rightOr (.mk 8 0 ⟨#[]⟩ [a,b]) = g at *
  refine ok55.ct mo Tryz.func55 (by simp) rfl fun hok => ?_
  unfold ac55
  rw [Term.v_eq a,Term.v_eq b] at *
  repeat' first|first|simp only [go_sem,reduceToNat,reduceEq,reduceAdd,Nat.reduceBEq,reduceLeDiff,reduceLT,Int.reduceLT,reduceLE,reduceNeg,reduceCtorEq]|refine s_seq fun K hK => ?_|refine s_region ?_|refine s_tree ?_|refine s_draw ?_|(first|(refine hK _ ?_;clear hK K)|(clear hK K;refine hK _ ?_;clear hK K)|(clear hK K;clear hK K;refine hK _ ?_;clear hK K))|refine And.intro ?_ ?_|refine s_call h ?_
  all_goals first|(simp [go_sem,tids,A.tid,A.tid.go,cons_append,frzT,St.frz,A.sub,A.subL,O.sub,subT,subH,frzY,frzZ,Post,aret,evRs,RV.ev,tupA,A.Le,A.LeL,lkp,St.frzs,A.ids,A.idsL,cond_true,cond_false,nbeq,nble,decide_true,decide_false,reduceLeDiff,Nat.reduceBEq,reduceAdd,beq_self_eq_true,true_and,and_true,true_implies,append_nil,nil_append,getElem?_cons_zero,getElem?_cons_succ,length_cons,length_nil,drop_zero,take_succ_cons,take_zero,and_self];done)|(simp [A.LeL];done)
theorem sign2_ct (a b : Term) (ha : a.cnt ≤ 4194000) (hb : b.cnt ≤ 4194000) : Ct Tryz.prog 46 [a.v,b.v] (rightOr (.mk 8 0 ⟨#[]⟩ [a,b])).w:=by
  have h:=right_ct (.mk 8 0 ⟨#[]⟩ [a,b]) (by simp [Term.cnt,cnts,sz0];omega)
  generalize rightOr (.mk 8 0 ⟨#[]⟩ [a,b]) = g at *
  simp only [Term.v_eq (.mk _ _ _ _),Term.op,Term.n,Term.s,Term.kids,encs,Term.enc_eq] at h
  refine ok46.ct mo Tryz.func46 (by simp) rfl fun hok => ?_
  unfold ac46
  rw [Term.v_eq a,Term.v_eq b]
  repeat' first|first|simp only [go_sem,reduceToNat,reduceEq,reduceAdd,Nat.reduceBEq,reduceLeDiff,reduceLT,Int.reduceLT,reduceLE,reduceNeg,reduceCtorEq]|refine s_seq fun K hK => ?_|refine s_region ?_|refine s_tree ?_|refine s_draw ?_|(first|(refine hK _ ?_;clear hK K)|(clear hK K;refine hK _ ?_;clear hK K)|(clear hK K;clear hK K;refine hK _ ?_;clear hK K))|refine And.intro ?_ ?_|refine s_call h ?_
  all_goals first|(simp [go_sem,tids,A.tid,A.tid.go,cons_append,frzT,St.frz,A.sub,A.subL,O.sub,subT,subH,frzY,frzZ,Post,aret,evRs,RV.ev,tupA,A.Le,A.LeL,lkp,St.frzs,A.ids,A.idsL,cond_true,cond_false,nbeq,nble,decide_true,decide_false,reduceLeDiff,Nat.reduceBEq,reduceAdd,beq_self_eq_true,true_and,and_true,true_implies,append_nil,nil_append,getElem?_cons_zero,getElem?_cons_succ,length_cons,length_nil,drop_zero,take_succ_cons,take_zero,and_self];done)|(simp [A.LeL];done)
end Go.Proofs.YtlddcimpdkcgeaaGreatDoor
