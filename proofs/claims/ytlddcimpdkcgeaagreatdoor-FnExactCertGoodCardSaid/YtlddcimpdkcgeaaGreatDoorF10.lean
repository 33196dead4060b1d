/- Greetings. -/
import Derived.Test.YtlddcimpdkcgeaaGreatDoorF9
set_option linter.unusedVariables false
set_option linter.unusedSimpArgs false
set_option maxRecDepth 20000
set_option maxHeartbeats 4000000
namespace Go.Proofs.YtlddcimpdkcgeaaGreatDoor
open Nat (reduceLeDiff reduceAdd reduceLT)
open Int (reduceToNat reduceNeg reduceEq reduceLE)
open Go.RowKit Sym
theorem rightOr_le {t : Term} {n : Nat} (h : t.cnt ≤ n) : (rightOr t).cnt ≤ n:=Nat.le_trans (rightOr_cnt t) h
theorem cnt1 (op n : Int) (a : Term) : (Term.mk op n ⟨#[]⟩ [a]).cnt = 1 + a.cnt:=by simp [Term.cnt,cnts,sz0]
theorem cnt2 (op n : Int) (a b : Term) : (Term.mk op n ⟨#[]⟩ [a,b]).cnt = 2 + (a.cnt + b.cnt):=by simp [Term.cnt,cnts,sz0]
def pairT (a b : Term) : Term:=rightOr (.mk 3 0 ⟨#[]⟩ [a,b])
def pubT (a : Term) : Term:=rightOr (.mk 4 0 ⟨#[]⟩ [a])
theorem pairT_cnt (a b : Term) : (pairT a b).cnt ≤ 2 + (a.cnt + b.cnt):=rightOr_le (by rw [cnt2];exact Nat.le_refl _)
theorem pubT_cnt (a : Term) : (pubT a).cnt ≤ 1 + a.cnt:=rightOr_le (by rw [cnt1];exact Nat.le_refl _)
def textT (s : ByteArray) : Term:=.mk 2 0 s []
theorem textT_cnt (s : ByteArray) : (textT s).cnt = s.size:=by simp [textT,Term.cnt,cnts]
theorem text2_ct (s : ByteArray) : Ct Tryz.prog 48 [.d false (.str s)] (textT s).v:=by
  refine ok48.ct mo Tryz.func48 (by simp) rfl fun hok => ?_
  unfold ac48
  repeat first|refine s_seq fun K hK => ?_|(refine s_region ?_;simp only [go_sem,reduceToNat,reduceEq,reduceAdd,Nat.reduceBEq,reduceLeDiff,reduceLT,Int.reduceLT,reduceLE,reduceNeg,reduceCtorEq])|(refine s_tree ?_;simp only [go_sem,reduceToNat,reduceEq,reduceAdd,Nat.reduceBEq,reduceLeDiff,reduceLT,Int.reduceLT,reduceLE,reduceNeg,reduceCtorEq])|(refine s_draw ?_;simp only [go_sem,reduceToNat,reduceEq,reduceAdd,Nat.reduceBEq,reduceLeDiff,reduceLT,Int.reduceLT,reduceLE,reduceNeg,reduceCtorEq])|(first|(refine hK _ ?_;clear hK K)|(clear hK K;refine hK _ ?_;clear hK K)|(clear hK K;clear hK K;refine hK _ ?_;clear hK K))|simp only [Bool.not_true,Bool.not_false,Bool.false_eq_true,Bool.true_eq_false,reduceCtorEq,false_implies,true_implies,true_and,and_true,X.ev,lkp,cond_true,cond_false,nbeq,beq_self_eq_true,Nat.reduceBEq,awp_skip,awp_ret,awp_exit,awp_block,awp_cond,thenK_norm,thenK_ret,thenK_exit,blockK_norm,blockK_ret,blockK_exit]|simp only [go_sem,reduceToNat,reduceEq,reduceAdd,Nat.reduceBEq,reduceLeDiff,reduceLT,Int.reduceLT,reduceLE,reduceNeg,reduceCtorEq]
  simp [go_sem,tids,A.tid,A.tid.go,List.cons_append,frzT,St.frz,A.sub,A.subL,O.sub,subT,subH,frzY,frzZ,Post,aret,evRs,RV.ev,tupA,A.Le,A.LeL,lkp,St.frzs,A.ids,A.idsL,cond_true,cond_false,nbeq,nble,decide_true,decide_false,reduceLeDiff,Nat.reduceBEq,reduceAdd,beq_self_eq_true,true_and,and_true,true_implies,List.append_nil,List.nil_append,List.getElem?_cons_zero,List.getElem?_cons_succ,List.length_cons,List.length_nil,List.drop_zero,List.take_succ_cons,List.take_zero,and_self]
  simp [textT,Term.op,Term.n,Term.s,Term.kids,encs]
end Go.Proofs.YtlddcimpdkcgeaaGreatDoor
