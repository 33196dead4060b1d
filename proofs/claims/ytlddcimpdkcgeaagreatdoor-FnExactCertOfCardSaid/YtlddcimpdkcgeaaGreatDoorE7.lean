/- Marks of certificates held; what a certificate read from a term weighs. -/
import Derived.Test.YtlddcimpdkcgeaaGreatDoorE6
set_option linter.unusedVariables false
set_option linter.unusedSimpArgs false
set_option maxRecDepth 20000
set_option maxHeartbeats 4000000
namespace Go.Proofs.YtlddcimpdkcgeaaGreatDoor
open Nat (reduceLeDiff reduceAdd reduceLT)
open Int (reduceToNat reduceNeg reduceEq reduceLE)
open Go.RowKit Sym
theorem heldCert_ct (c : Cert) (k : Int) (h0 : 0 ≤ k) (h1 : k + 3 * nodsL c.pub.kids ≤ 4611686018427387904) :
    Ct Tryz.prog 17 [.agg [.d false (.str c.host),.d false (.int .i64 c.pub.op),.d false (.int .i64 c.pub.n),.d false (.str c.pub.s),.d false (.sl (encs (markTs k c.pub.kids))),.d false (.int .i64 c.til)],.d false (.int .i64 k)] (.d true (.int .i64 (k + 3 * nodsL c.pub.kids))):=by
  have hh:=heldTerm_ct c.pub.op c.pub.n c.pub.s c.pub.kids k h0 h1
  refine ok17.ct mo Tryz.func17 (by simp) rfl fun hok => ?_
  unfold ac17
  repeat first|refine s_seq fun K hK => ?_|(refine s_region ?_;simp only [go_sem,reduceToNat,reduceEq,reduceAdd,Nat.reduceBEq,reduceLeDiff,reduceLT,Int.reduceLT,reduceLE,reduceNeg,reduceCtorEq])|(refine s_tree ?_;simp only [go_sem,reduceToNat,reduceEq,reduceAdd,Nat.reduceBEq,reduceLeDiff,reduceLT,Int.reduceLT,reduceLE,reduceNeg,reduceCtorEq])|(refine s_draw ?_;simp only [go_sem,reduceToNat,reduceEq,reduceAdd,Nat.reduceBEq,reduceLeDiff,reduceLT,Int.reduceLT,reduceLE,reduceNeg,reduceCtorEq])|(first|(refine hK _ ?_;clear hK K)|(clear hK K;refine hK _ ?_;clear hK K)|(clear hK K;clear hK K;refine hK _ ?_;clear hK K))|simp only [Bool.not_true,Bool.not_false,Bool.false_eq_true,Bool.true_eq_false,reduceCtorEq,false_implies,true_implies,true_and,and_true,X.ev,lkp,cond_true,cond_false,nbeq,beq_self_eq_true,Nat.reduceBEq,awp_skip,awp_ret,awp_exit,awp_block,awp_cond,thenK_norm,thenK_ret,thenK_exit,blockK_norm,blockK_ret,blockK_exit]|simp only [go_sem,reduceToNat,reduceEq,reduceAdd,Nat.reduceBEq,reduceLeDiff,reduceLT,Int.reduceLT,reduceLE,reduceNeg,reduceCtorEq]
  refine s_call hh ?_
  repeat first|refine s_seq fun K hK => ?_|(refine s_region ?_;simp only [go_sem,reduceToNat,reduceEq,reduceAdd,Nat.reduceBEq,reduceLeDiff,reduceLT,Int.reduceLT,reduceLE,reduceNeg,reduceCtorEq])|(refine s_tree ?_;simp only [go_sem,reduceToNat,reduceEq,reduceAdd,Nat.reduceBEq,reduceLeDiff,reduceLT,Int.reduceLT,reduceLE,reduceNeg,reduceCtorEq])|(refine s_draw ?_;simp only [go_sem,reduceToNat,reduceEq,reduceAdd,Nat.reduceBEq,reduceLeDiff,reduceLT,Int.reduceLT,reduceLE,reduceNeg,reduceCtorEq])|(first|(refine hK _ ?_;clear hK K)|(clear hK K;refine hK _ ?_;clear hK K)|(clear hK K;clear hK K;refine hK _ ?_;clear hK K))|simp only [Bool.not_true,Bool.not_false,Bool.false_eq_true,Bool.true_eq_false,reduceCtorEq,false_implies,true_implies,true_and,and_true,X.ev,lkp,cond_true,cond_false,nbeq,beq_self_eq_true,Nat.reduceBEq,awp_skip,awp_ret,awp_exit,awp_block,awp_cond,thenK_norm,thenK_ret,thenK_exit,blockK_norm,blockK_ret,blockK_exit]|simp only [go_sem,reduceToNat,reduceEq,reduceAdd,Nat.reduceBEq,reduceLeDiff,reduceLT,Int.reduceLT,reduceLE,reduceNeg,reduceCtorEq]
  rw [show decide (k + 3 * (nodsL c.pub.kids : Int) < 0) = false from decide_eq_false (by omega)]
  repeat first|refine s_seq fun K hK => ?_|(refine s_region ?_;simp only [go_sem,reduceToNat,reduceEq,reduceAdd,Nat.reduceBEq,reduceLeDiff,reduceLT,Int.reduceLT,reduceLE,reduceNeg,reduceCtorEq])|(refine s_tree ?_;simp only [go_sem,reduceToNat,reduceEq,reduceAdd,Nat.reduceBEq,reduceLeDiff,reduceLT,Int.reduceLT,reduceLE,reduceNeg,reduceCtorEq])|(refine s_draw ?_;simp only [go_sem,reduceToNat,reduceEq,reduceAdd,Nat.reduceBEq,reduceLeDiff,reduceLT,Int.reduceLT,reduceLE,reduceNeg,reduceCtorEq])|(first|(refine hK _ ?_;clear hK K)|(clear hK K;refine hK _ ?_;clear hK K)|(clear hK K;clear hK K;refine hK _ ?_;clear hK K))|simp only [Bool.not_true,Bool.not_false,Bool.false_eq_true,Bool.true_eq_false,reduceCtorEq,false_implies,true_implies,true_and,and_true,X.ev,lkp,cond_true,cond_false,nbeq,beq_self_eq_true,Nat.reduceBEq,awp_skip,awp_ret,awp_exit,awp_block,awp_cond,thenK_norm,thenK_ret,thenK_exit,blockK_norm,blockK_ret,blockK_exit]|simp only [go_sem,reduceToNat,reduceEq,reduceAdd,Nat.reduceBEq,reduceLeDiff,reduceLT,Int.reduceLT,reduceLE,reduceNeg,reduceCtorEq]
  simp [go_sem,tids,A.tid,A.tid.go,List.cons_append,frzT,St.frz,A.sub,A.subL,O.sub,subT,subH,frzY,frzZ,Post,aret,evRs,RV.ev,tupA,A.Le,A.LeL,lkp,St.frzs,A.ids,A.idsL,cond_true,cond_false,nbeq,nble,decide_true,decide_false,reduceLeDiff,Nat.reduceBEq,reduceAdd,beq_self_eq_true,true_and,and_true,true_implies,List.append_nil,List.nil_append,List.getElem?_cons_zero,List.getElem?_cons_succ,List.length_cons,List.length_nil,List.drop_zero,List.take_succ_cons,List.take_zero,and_self]
theorem certOfT_cnt (t : Term) : ((certOfT t).getD noC).pub.cnt ≤ t.cnt + 1:=by
  unfold certOfT
  rcases h : openC t with _|⟨a,p,u⟩
  · show noT.cnt ≤ t.cnt + 1
    have : noT.cnt ≤ 1:=by decide
    omega
  · have hp:=(open_cnt h).2.1
    simp only
    cases certB ⟨a.s,p,numB u.s⟩ && eqT (certT ⟨a.s,p,numB u.s⟩) t with
    | true => show p.cnt ≤ t.cnt + 1;omega
    | false =>
      show noT.cnt ≤ t.cnt + 1
      have : noT.cnt ≤ 1:=by decide
      omega
end Go.Proofs.YtlddcimpdkcgeaaGreatDoor
