/- Which texts are labels, hosts, patterns. -/
import Derived.Test.YtlddcimpdkcgeaaGreatDoorD2
set_option linter.unusedVariables false
set_option linter.unusedSimpArgs false
set_option maxRecDepth 20000
set_option maxHeartbeats 4000000
namespace Go.Proofs.YtlddcimpdkcgeaaGreatDoor
open List (length_cons length_nil cons_append nil_append append_nil getElem?_cons_succ getElem?_cons_zero length_append take_succ_cons take_zero drop_zero)
open Nat (reduceLeDiff reduceAdd reduceLT reduceSub sub_self zero_add sub_zero)
open Int (reduceToNat reduceNeg reduceEq reduceLE toNat_natCast)
open Go Go.RowKit Sym
attribute [local irreducible] awp aops aopsQ gop gopQ gopO gopOQ gopV gopT awpN awpT awpTs ACall after
def betw (x lo hi : Int) : Bool:=bif decide (lo ≤ x) then decide (x ≤ hi) else false
theorem betw1_ct (x lo hi : Int) : Ct Tryz.prog 63 [.d false (.int .i64 x),.d false (.int .i64 lo),.d false (.int .i64 hi)] (.d true (.bool (betw x lo hi))):=by
  refine ok63.ct mo Tryz.func63 (by simp) rfl fun hok => ?_
  unfold ac63 betw
  repeat' first|first|refine s_opt1 ?_|refine s_opt0 ?_|refine s_optq1 ?_|refine s_optq0 ?_|(refine s_norm ?_;try simp only [wsN,wsI,rmv,rng,X.ev,lkp,peel,cond_true,cond_false,nbeq,Nat.reduceBEq,reduceSub,reduceAdd,zero_add,sub_zero,sub_self,length_cons,length_nil,length_append,cons_append,nil_append,append_nil])|(refine s_take fun K hK => ?_)|(refine s_cons (fun K hK => ?_) ?_)|exact s_tnil|refine s_br ?_|refine s_done ?_|refine s_seq fun K hK => ?_|refine s_region ?_|refine s_draw ?_|refine s_tree ?_|refine s_op fun K hK => ?_|refine s_opq fun K hK => ?_|refine s_ops ?_|refine s_endq ?_|simp only [go_sem,reduceToNat,reduceEq,reduceAdd,Nat.reduceBEq,reduceLeDiff,reduceLT,Int.reduceLT,reduceLE,reduceNeg,reduceCtorEq]|(first|(refine hK _ ?_;clear hK K)|(clear hK K;refine hK _ ?_;clear hK K)|(clear hK K;clear hK K;refine hK _ ?_;clear hK K))|refine And.intro ?_ ?_
  all_goals first|(simp [go_sem,tids,A.tid,A.tid.go,cons_append,frzT,St.frz,A.sub,A.subL,O.sub,subT,subH,frzY,frzZ,Post,aret,evRs,RV.ev,tupA,A.Le,A.LeL,lkp,St.frzs,A.ids,A.idsL,cond_true,cond_false,nbeq,nble,decide_true,decide_false,reduceLeDiff,Nat.reduceBEq,reduceAdd,beq_self_eq_true,true_and,and_true,true_implies,append_nil,nil_append,getElem?_cons_zero,getElem?_cons_succ,length_cons,length_nil,drop_zero,take_succ_cons,take_zero,and_self];done)|skip
theorem betw2_ct (x lo hi : Int) : Ct Tryz.prog 60 [.d false (.int .i64 x),.d false (.int .i64 lo),.d false (.int .i64 hi)] (.d true (.bool (betw x lo hi))):=by
  refine ok60.ct mo Tryz.func60 (by simp) rfl fun hok => ?_
  unfold ac60 betw
  repeat' first|first|refine s_opt1 ?_|refine s_opt0 ?_|refine s_optq1 ?_|refine s_optq0 ?_|(refine s_norm ?_;try simp only [wsN,wsI,rmv,rng,X.ev,lkp,peel,cond_true,cond_false,nbeq,Nat.reduceBEq,reduceSub,reduceAdd,zero_add,sub_zero,sub_self,length_cons,length_nil,length_append,cons_append,nil_append,append_nil])|(refine s_take fun K hK => ?_)|(refine s_cons (fun K hK => ?_) ?_)|exact s_tnil|refine s_br ?_|refine s_done ?_|refine s_seq fun K hK => ?_|refine s_region ?_|refine s_draw ?_|refine s_tree ?_|refine s_op fun K hK => ?_|refine s_opq fun K hK => ?_|refine s_ops ?_|refine s_endq ?_|simp only [go_sem,reduceToNat,reduceEq,reduceAdd,Nat.reduceBEq,reduceLeDiff,reduceLT,Int.reduceLT,reduceLE,reduceNeg,reduceCtorEq]|(first|(refine hK _ ?_;clear hK K)|(clear hK K;refine hK _ ?_;clear hK K)|(clear hK K;clear hK K;refine hK _ ?_;clear hK K))|refine And.intro ?_ ?_
  all_goals first|(simp [go_sem,tids,A.tid,A.tid.go,cons_append,frzT,St.frz,A.sub,A.subL,O.sub,subT,subH,frzY,frzZ,Post,aret,evRs,RV.ev,tupA,A.Le,A.LeL,lkp,St.frzs,A.ids,A.idsL,cond_true,cond_false,nbeq,nble,decide_true,decide_false,reduceLeDiff,Nat.reduceBEq,reduceAdd,beq_self_eq_true,true_and,and_true,true_implies,append_nil,nil_append,getElem?_cons_zero,getElem?_cons_succ,length_cons,length_nil,drop_zero,take_succ_cons,take_zero,and_self];done)|skip
def byteOk (c : Int) (i n : Nat) : Bool:=(decide (97 ≤ c) && decide (c ≤ 122)) || ((decide (48 ≤ c) && decide (c ≤ 57)) || (decide (c = 45) && (decide (0 < i) && decide (i + 1 < n))))
def labF (s : ByteArray) : Nat → Nat → Bool
  | 0,_ => true
  | k + 1,i => byteOk (btS s (i : Int)) i s.size && labF s k (i + 1)
def labelB (s : ByteArray) : Bool:=labF s s.size 0 && betw s.size 1 10
theorem labF_step {s : ByteArray} {i : Nat} (hi : i < s.size) : labF s (s.size - i) i = (byteOk (btS s (i : Int)) i s.size && labF s (s.size - (i + 1)) (i + 1)):=by
  rw [show s.size - i = (s.size - (i + 1)) + 1 by omega,labF]
theorem byte_cases (c : Int) (i n : Nat) (h : i < n) : (97 ≤ c ∧ c ≤ 122) ∨ 122 < c ∨ (57 < c ∧ c < 97) ∨ (48 ≤ c ∧ c ≤ 57) ∨ (c < 48 ∧ c ≠ 45) ∨ (c = 45 ∧ i = 0) ∨ (c = 45 ∧ 0 < i ∧ i + 1 = n) ∨ (c = 45 ∧ 0 < i ∧ i + 1 < n):=by omega
theorem label1_ct (s : ByteArray) : Ct Tryz.prog 105 [.d false (.str s)] (.d true (.bool (labelB s))):=by
  have hin:=betw1_ct s.size 1 10
  refine ok105.ct mo Tryz.func105 (by simp) rfl fun hok => ?_
  have hs : s.size ≤ 4611686018427387904:=by simp only [A.OkL,A.Ok,D.Ok] at hok;exact hok.1
  have hle0 : True:=trivial
  unfold ac105
  repeat' first|first|refine s_opt1 ?_|refine s_opt0 ?_|refine s_optq1 ?_|refine s_optq0 ?_|(refine s_norm ?_;try simp only [wsN,wsI,rmv,rng,X.ev,lkp,peel,cond_true,cond_false,nbeq,Nat.reduceBEq,reduceSub,reduceAdd,zero_add,sub_zero,sub_self,length_cons,length_nil,length_append,cons_append,nil_append,append_nil])|(refine s_take fun K hK => ?_)|(refine s_cons (fun K hK => ?_) ?_)|exact s_tnil|refine s_br ?_|refine s_done ?_|refine s_seq fun K hK => ?_|refine s_region ?_|refine s_draw ?_|refine s_tree ?_|refine s_op fun K hK => ?_|refine s_opq fun K hK => ?_|refine s_ops ?_|refine s_endq ?_|simp only [go_sem,reduceToNat,reduceEq,reduceAdd,Nat.reduceBEq,reduceLeDiff,reduceLT,Int.reduceLT,reduceLE,reduceNeg,reduceCtorEq]|(first|(refine hK _ ?_;clear hK K)|(clear hK K;refine hK _ ?_;clear hK K)|(clear hK K;clear hK K;refine hK _ ?_;clear hK K))|refine And.intro ?_ ?_
  refine s_loop { i : Nat // i ≤ s.size ∧ labF s (s.size - i) i = labF s s.size 0 } (fun i => ⟨[(0,.d false (.str s)),(3,.d true (.int .i64 i.1))],[]⟩) (fun i => s.size - i.1) ⟨0,Nat.zero_le _,rfl⟩ ?_ ?_
  · simp [StLe,leT,leH,A.Le,A.LeL,O.Le,lkp,freeT,freeH,A.free,A.freeL,cond_true,cond_false,nbeq,nble,nblt,decide_true,decide_false,reduceLT,Nat.reduceBEq,true_and,and_true,length_cons,length_nil,true_implies,and_self,Bool.and_true,Bool.true_and,Bool.and_self]
  · rintro ⟨i,hi,he⟩ K1 hK1
    simp only
    have hw : wrap64 ((i : Int) + 1) = ((i + 1 : Nat) : Int):=by rw [w64 (by omega) (by omega)];omega
    by_cases hlt : i < s.size
    · have d1 : decide ((i : Int) < s.size) = true:=decide_eq_true (by omega)
      have hw2 : wrap64 ((s.size : Int) - 1) = (s.size : Int) - 1:=w64 (by omega) (by omega)
      rw [labF_step hlt] at he
      rcases byte_cases (btS s (i : Int)) i s.size hlt with h|h|h|h|h|h|h|h
      all_goals
        first|have f0:=decide_eq_true (show 97 ≤ btS s (i : Int) by omega)|have f0:=decide_eq_false (show ¬ (97 ≤ btS s (i : Int)) by omega)|have f0:=hle0
        first|have f1:=decide_eq_true (show btS s (i : Int) ≤ 122 by omega)|have f1:=decide_eq_false (show ¬ (btS s (i : Int) ≤ 122) by omega)|have f1:=hle0
        first|have f2:=decide_eq_true (show 48 ≤ btS s (i : Int) by omega)|have f2:=decide_eq_false (show ¬ (48 ≤ btS s (i : Int)) by omega)|have f2:=hle0
        first|have f3:=decide_eq_true (show btS s (i : Int) ≤ 57 by omega)|have f3:=decide_eq_false (show ¬ (btS s (i : Int) ≤ 57) by omega)|have f3:=hle0
        first|have f4:=decide_eq_true (show btS s (i : Int) = 45 by omega)|have f4:=decide_eq_false (show ¬ (btS s (i : Int) = 45) by omega)|have f4:=hle0
        first|have f5:=decide_eq_true (show (0 : Int) < (i : Int) by omega)|have f5:=decide_eq_false (show ¬ ((0 : Int) < (i : Int)) by omega)|have f5:=hle0
        first|have f6:=decide_eq_true (show (i : Int) < (s.size : Int) - 1 by omega)|have f6:=decide_eq_false (show ¬ ((i : Int) < (s.size : Int) - 1) by omega)|have f6:=hle0
        first
          | have hb : byteOk (btS s (i : Int)) i s.size = true:=by simp [byteOk];omega
            rw [hb,Bool.true_and] at he
            repeat' first|first|refine s_opt1 ?_|refine s_opt0 ?_|refine s_optq1 ?_|refine s_optq0 ?_|(refine s_norm ?_;try simp only [wsN,wsI,rmv,rng,X.ev,lkp,peel,cond_true,cond_false,nbeq,Nat.reduceBEq,reduceSub,reduceAdd,zero_add,sub_zero,sub_self,length_cons,length_nil,length_append,cons_append,nil_append,append_nil])|(refine s_take fun K hK => ?_)|(refine s_cons (fun K hK => ?_) ?_)|exact s_tnil|refine s_br ?_|refine s_done ?_|refine s_seq fun K hK => ?_|refine s_region ?_|refine s_draw ?_|refine s_tree ?_|refine s_op fun K hK => ?_|refine s_opq fun K hK => ?_|refine s_ops ?_|refine s_endq ?_|simp only [go_sem,reduceToNat,reduceEq,reduceAdd,Nat.reduceBEq,reduceLeDiff,reduceLT,Int.reduceLT,reduceLE,reduceNeg,reduceCtorEq,d1,hw,hw2,toNat_natCast,f0,f1,f2,f3,f4,f5,f6]|(first|(refine hK _ ?_;clear hK K)|(clear hK K;refine hK _ ?_;clear hK K)|(clear hK K;clear hK K;refine hK _ ?_;clear hK K))|refine And.intro ?_ ?_
            all_goals first|omega|(simp;done)|skip
            refine hK1 _ ⟨i + 1,by omega,he⟩ ?_ (by simp;omega)
            simp [StLe,leT,leH,A.Le,A.LeL,O.Le,lkp,freeT,freeH,A.free,A.freeL,cond_true,cond_false,nbeq,nble,nblt,decide_true,decide_false,reduceLT,Nat.reduceBEq,true_and,and_true,length_cons,length_nil,true_implies,and_self,Bool.and_true,Bool.true_and,Bool.and_self]
            done
          | have hb : byteOk (btS s (i : Int)) i s.size = false:=by simp [byteOk];omega
            rw [hb,Bool.false_and] at he
            repeat' first|first|refine s_opt1 ?_|refine s_opt0 ?_|refine s_optq1 ?_|refine s_optq0 ?_|(refine s_norm ?_;try simp only [wsN,wsI,rmv,rng,X.ev,lkp,peel,cond_true,cond_false,nbeq,Nat.reduceBEq,reduceSub,reduceAdd,zero_add,sub_zero,sub_self,length_cons,length_nil,length_append,cons_append,nil_append,append_nil])|(refine s_take fun K hK => ?_)|(refine s_cons (fun K hK => ?_) ?_)|exact s_tnil|refine s_br ?_|refine s_done ?_|refine s_seq fun K hK => ?_|refine s_region ?_|refine s_draw ?_|refine s_tree ?_|refine s_op fun K hK => ?_|refine s_opq fun K hK => ?_|refine s_ops ?_|refine s_endq ?_|simp only [go_sem,reduceToNat,reduceEq,reduceAdd,Nat.reduceBEq,reduceLeDiff,reduceLT,Int.reduceLT,reduceLE,reduceNeg,reduceCtorEq,d1,hw,hw2,toNat_natCast,f0,f1,f2,f3,f4,f5,f6]|(first|(refine hK _ ?_;clear hK K)|(clear hK K;refine hK _ ?_;clear hK K)|(clear hK K;clear hK K;refine hK _ ?_;clear hK K))|refine And.intro ?_ ?_
            all_goals first|omega|(simp;done)|skip
            simp [go_sem,tids,A.tid,A.tid.go,cons_append,frzT,St.frz,A.sub,A.subL,O.sub,subT,subH,frzY,frzZ,Post,aret,evRs,RV.ev,tupA,A.Le,A.LeL,lkp,St.frzs,A.ids,A.idsL,cond_true,cond_false,nbeq,nble,decide_true,decide_false,reduceLeDiff,Nat.reduceBEq,reduceAdd,beq_self_eq_true,true_and,and_true,true_implies,append_nil,nil_append,getElem?_cons_zero,getElem?_cons_succ,length_cons,length_nil,drop_zero,take_succ_cons,take_zero,and_self,labelB,← he]
            done
    · have d1 : decide ((i : Int) < s.size) = false:=decide_eq_false (by omega)
      have : i = s.size:=by omega
      subst this
      rw [sub_self,labF] at he
      repeat' first|first|refine s_opt1 ?_|refine s_opt0 ?_|refine s_optq1 ?_|refine s_optq0 ?_|(refine s_norm ?_;try simp only [wsN,wsI,rmv,rng,X.ev,lkp,peel,cond_true,cond_false,nbeq,Nat.reduceBEq,reduceSub,reduceAdd,zero_add,sub_zero,sub_self,length_cons,length_nil,length_append,cons_append,nil_append,append_nil])|(refine s_take fun K hK => ?_)|(refine s_cons (fun K hK => ?_) ?_)|exact s_tnil|refine s_br ?_|refine s_done ?_|refine s_seq fun K hK => ?_|refine s_region ?_|refine s_draw ?_|refine s_tree ?_|refine s_op fun K hK => ?_|refine s_opq fun K hK => ?_|refine s_ops ?_|refine s_endq ?_|simp only [go_sem,reduceToNat,reduceEq,reduceAdd,Nat.reduceBEq,reduceLeDiff,reduceLT,Int.reduceLT,reduceLE,reduceNeg,reduceCtorEq,d1]|(first|(refine hK _ ?_;clear hK K)|(clear hK K;refine hK _ ?_;clear hK K)|(clear hK K;clear hK K;refine hK _ ?_;clear hK K))|refine And.intro ?_ ?_|refine s_call hin ?_
      all_goals first|(simp [go_sem,tids,A.tid,A.tid.go,cons_append,frzT,St.frz,A.sub,A.subL,O.sub,subT,subH,frzY,frzZ,Post,aret,evRs,RV.ev,tupA,A.Le,A.LeL,lkp,St.frzs,A.ids,A.idsL,cond_true,cond_false,nbeq,nble,decide_true,decide_false,reduceLeDiff,Nat.reduceBEq,reduceAdd,beq_self_eq_true,true_and,and_true,true_implies,append_nil,nil_append,getElem?_cons_zero,getElem?_cons_succ,length_cons,length_nil,drop_zero,take_succ_cons,take_zero,and_self,labelB,← he];done)|skip
theorem label2_ct (s : ByteArray) : Ct Tryz.prog 99 [.d false (.str s)] (.d true (.bool (labelB s))):=by
  have hin:=betw2_ct s.size 1 10
  refine ok99.ct mo Tryz.func99 (by simp) rfl fun hok => ?_
  have hs : s.size ≤ 4611686018427387904:=by simp only [A.OkL,A.Ok,D.Ok] at hok;exact hok.1
  have hle0 : True:=trivial
  unfold ac99
  repeat' first|first|refine s_opt1 ?_|refine s_opt0 ?_|refine s_optq1 ?_|refine s_optq0 ?_|(refine s_norm ?_;try simp only [wsN,wsI,rmv,rng,X.ev,lkp,peel,cond_true,cond_false,nbeq,Nat.reduceBEq,reduceSub,reduceAdd,zero_add,sub_zero,sub_self,length_cons,length_nil,length_append,cons_append,nil_append,append_nil])|(refine s_take fun K hK => ?_)|(refine s_cons (fun K hK => ?_) ?_)|exact s_tnil|refine s_br ?_|refine s_done ?_|refine s_seq fun K hK => ?_|refine s_region ?_|refine s_draw ?_|refine s_tree ?_|refine s_op fun K hK => ?_|refine s_opq fun K hK => ?_|refine s_ops ?_|refine s_endq ?_|simp only [go_sem,reduceToNat,reduceEq,reduceAdd,Nat.reduceBEq,reduceLeDiff,reduceLT,Int.reduceLT,reduceLE,reduceNeg,reduceCtorEq]|(first|(refine hK _ ?_;clear hK K)|(clear hK K;refine hK _ ?_;clear hK K)|(clear hK K;clear hK K;refine hK _ ?_;clear hK K))|refine And.intro ?_ ?_
  refine s_loop { i : Nat // i ≤ s.size ∧ labF s (s.size - i) i = labF s s.size 0 } (fun i => ⟨[(0,.d false (.str s)),(6,.d true (.int .i64 s.size)),(7,.d true (.int .i64 i.1))],[]⟩) (fun i => s.size - i.1) ⟨0,Nat.zero_le _,rfl⟩ ?_ ?_
  · simp [StLe,leT,leH,A.Le,A.LeL,O.Le,lkp,freeT,freeH,A.free,A.freeL,cond_true,cond_false,nbeq,nble,nblt,decide_true,decide_false,reduceLT,Nat.reduceBEq,true_and,and_true,length_cons,length_nil,true_implies,and_self,Bool.and_true,Bool.true_and,Bool.and_self]
  · rintro ⟨i,hi,he⟩ K1 hK1
    simp only
    have hw : wrap64 ((i : Int) + 1) = ((i + 1 : Nat) : Int):=by rw [w64 (by omega) (by omega)];omega
    by_cases hlt : i < s.size
    · have d1 : decide ((i : Int) < s.size) = true:=decide_eq_true (by omega)
      have hw2 : wrap64 ((s.size : Int) - 1) = (s.size : Int) - 1:=w64 (by omega) (by omega)
      rw [labF_step hlt] at he
      rcases byte_cases (btS s (i : Int)) i s.size hlt with h|h|h|h|h|h|h|h
      all_goals
        first|have f0:=decide_eq_true (show btS s (i : Int) < 97 by omega)|have f0:=decide_eq_false (show ¬ (btS s (i : Int) < 97) by omega)|have f0:=hle0
        first|have f1:=decide_eq_true (show 122 < btS s (i : Int) by omega)|have f1:=decide_eq_false (show ¬ (122 < btS s (i : Int)) by omega)|have f1:=hle0
        first|have f2:=decide_eq_true (show btS s (i : Int) < 48 by omega)|have f2:=decide_eq_false (show ¬ (btS s (i : Int) < 48) by omega)|have f2:=hle0
        first|have f3:=decide_eq_true (show 57 < btS s (i : Int) by omega)|have f3:=decide_eq_false (show ¬ (57 < btS s (i : Int)) by omega)|have f3:=hle0
        first|have f4:=decide_eq_true (show btS s (i : Int) = 45 by omega)|have f4:=decide_eq_false (show ¬ (btS s (i : Int) = 45) by omega)|have f4:=hle0
        first|have f5:=decide_eq_true (show (i : Int) = 0 by omega)|have f5:=decide_eq_false (show ¬ ((i : Int) = 0) by omega)|have f5:=hle0
        first|have f6:=decide_eq_true (show (i : Int) = (s.size : Int) - 1 by omega)|have f6:=decide_eq_false (show ¬ ((i : Int) = (s.size : Int) - 1) by omega)|have f6:=hle0
        first
          | have hb : byteOk (btS s (i : Int)) i s.size = true:=by simp [byteOk];omega
            rw [hb,Bool.true_and] at he
            repeat' first|first|refine s_opt1 ?_|refine s_opt0 ?_|refine s_optq1 ?_|refine s_optq0 ?_|(refine s_norm ?_;try simp only [wsN,wsI,rmv,rng,X.ev,lkp,peel,cond_true,cond_false,nbeq,Nat.reduceBEq,reduceSub,reduceAdd,zero_add,sub_zero,sub_self,length_cons,length_nil,length_append,cons_append,nil_append,append_nil])|(refine s_take fun K hK => ?_)|(refine s_cons (fun K hK => ?_) ?_)|exact s_tnil|refine s_br ?_|refine s_done ?_|refine s_seq fun K hK => ?_|refine s_region ?_|refine s_draw ?_|refine s_tree ?_|refine s_op fun K hK => ?_|refine s_opq fun K hK => ?_|refine s_ops ?_|refine s_endq ?_|simp only [go_sem,reduceToNat,reduceEq,reduceAdd,Nat.reduceBEq,reduceLeDiff,reduceLT,Int.reduceLT,reduceLE,reduceNeg,reduceCtorEq,d1,hw,hw2,toNat_natCast,f0,f1,f2,f3,f4,f5,f6]|(first|(refine hK _ ?_;clear hK K)|(clear hK K;refine hK _ ?_;clear hK K)|(clear hK K;clear hK K;refine hK _ ?_;clear hK K))|refine And.intro ?_ ?_
            all_goals first|omega|(simp;done)|skip
            refine hK1 _ ⟨i + 1,by omega,he⟩ ?_ (by simp;omega)
            simp [StLe,leT,leH,A.Le,A.LeL,O.Le,lkp,freeT,freeH,A.free,A.freeL,cond_true,cond_false,nbeq,nble,nblt,decide_true,decide_false,reduceLT,Nat.reduceBEq,true_and,and_true,length_cons,length_nil,true_implies,and_self,Bool.and_true,Bool.true_and,Bool.and_self]
            done
          | have hb : byteOk (btS s (i : Int)) i s.size = false:=by simp [byteOk];omega
            rw [hb,Bool.false_and] at he
            repeat' first|first|refine s_opt1 ?_|refine s_opt0 ?_|refine s_optq1 ?_|refine s_optq0 ?_|(refine s_norm ?_;try simp only [wsN,wsI,rmv,rng,X.ev,lkp,peel,cond_true,cond_false,nbeq,Nat.reduceBEq,reduceSub,reduceAdd,zero_add,sub_zero,sub_self,length_cons,length_nil,length_append,cons_append,nil_append,append_nil])|(refine s_take fun K hK => ?_)|(refine s_cons (fun K hK => ?_) ?_)|exact s_tnil|refine s_br ?_|refine s_done ?_|refine s_seq fun K hK => ?_|refine s_region ?_|refine s_draw ?_|refine s_tree ?_|refine s_op fun K hK => ?_|refine s_opq fun K hK => ?_|refine s_ops ?_|refine s_endq ?_|simp only [go_sem,reduceToNat,reduceEq,reduceAdd,Nat.reduceBEq,reduceLeDiff,reduceLT,Int.reduceLT,reduceLE,reduceNeg,reduceCtorEq,d1,hw,hw2,toNat_natCast,f0,f1,f2,f3,f4,f5,f6]|(first|(refine hK _ ?_;clear hK K)|(clear hK K;refine hK _ ?_;clear hK K)|(clear hK K;clear hK K;refine hK _ ?_;clear hK K))|refine And.intro ?_ ?_
            all_goals first|omega|(simp;done)|skip
            simp [go_sem,tids,A.tid,A.tid.go,cons_append,frzT,St.frz,A.sub,A.subL,O.sub,subT,subH,frzY,frzZ,Post,aret,evRs,RV.ev,tupA,A.Le,A.LeL,lkp,St.frzs,A.ids,A.idsL,cond_true,cond_false,nbeq,nble,decide_true,decide_false,reduceLeDiff,Nat.reduceBEq,reduceAdd,beq_self_eq_true,true_and,and_true,true_implies,append_nil,nil_append,getElem?_cons_zero,getElem?_cons_succ,length_cons,length_nil,drop_zero,take_succ_cons,take_zero,and_self,labelB,← he]
            done
    · have d1 : decide ((i : Int) < s.size) = false:=decide_eq_false (by omega)
      have : i = s.size:=by omega
      subst this
      rw [sub_self,labF] at he
      repeat' first|first|refine s_opt1 ?_|refine s_opt0 ?_|refine s_optq1 ?_|refine s_optq0 ?_|(refine s_norm ?_;try simp only [wsN,wsI,rmv,rng,X.ev,lkp,peel,cond_true,cond_false,nbeq,Nat.reduceBEq,reduceSub,reduceAdd,zero_add,sub_zero,sub_self,length_cons,length_nil,length_append,cons_append,nil_append,append_nil])|(refine s_take fun K hK => ?_)|(refine s_cons (fun K hK => ?_) ?_)|exact s_tnil|refine s_br ?_|refine s_done ?_|refine s_seq fun K hK => ?_|refine s_region ?_|refine s_draw ?_|refine s_tree ?_|refine s_op fun K hK => ?_|refine s_opq fun K hK => ?_|refine s_ops ?_|refine s_endq ?_|simp only [go_sem,reduceToNat,reduceEq,reduceAdd,Nat.reduceBEq,reduceLeDiff,reduceLT,Int.reduceLT,reduceLE,reduceNeg,reduceCtorEq,d1]|(first|(refine hK _ ?_;clear hK K)|(clear hK K;refine hK _ ?_;clear hK K)|(clear hK K;clear hK K;refine hK _ ?_;clear hK K))|refine And.intro ?_ ?_|refine s_call hin ?_
      all_goals first|(simp [go_sem,tids,A.tid,A.tid.go,cons_append,frzT,St.frz,A.sub,A.subL,O.sub,subT,subH,frzY,frzZ,Post,aret,evRs,RV.ev,tupA,A.Le,A.LeL,lkp,St.frzs,A.ids,A.idsL,cond_true,cond_false,nbeq,nble,decide_true,decide_false,reduceLeDiff,Nat.reduceBEq,reduceAdd,beq_self_eq_true,true_and,and_true,true_implies,append_nil,nil_append,getElem?_cons_zero,getElem?_cons_succ,length_cons,length_nil,drop_zero,take_succ_cons,take_zero,and_self,labelB,← he];done)|skip
end Go.Proofs.YtlddcimpdkcgeaaGreatDoor
