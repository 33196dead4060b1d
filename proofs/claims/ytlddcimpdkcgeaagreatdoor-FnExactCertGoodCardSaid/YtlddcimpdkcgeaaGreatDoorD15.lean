/- Numbers out of texts: the reference's function. -/
import Derived.Test.YtlddcimpdkcgeaaGreatDoorD14
set_option linter.unusedVariables false
set_option linter.unusedSimpArgs false
set_option maxRecDepth 20000
set_option maxHeartbeats 8000000
namespace Go.Proofs.YtlddcimpdkcgeaaGreatDoor
open List (length_cons length_nil cons_append nil_append append_nil getElem?_cons_succ getElem?_cons_zero length_append take_succ_cons take_zero drop_zero)
open Nat (reduceLeDiff reduceAdd reduceLT reduceSub sub_self zero_add sub_zero)
open Int (reduceToNat reduceNeg reduceEq reduceLE)
open Go Go.RowKit Sym
attribute [local irreducible] awp aops aopsQ gop gopQ gopO gopOQ gopV gopT awpN awpT awpTs ACall after
theorem number1_ct (s : ByteArray) (hs : s.size ≤ 1048576) : Ct Tryz.prog 36 [.d false (.str s)] (.d true (.int .i64 (numB s))):=by
  refine ok36.ct mo Tryz.func36 (by simp) rfl fun hok => ?_
  unfold ac36
  by_cases h1 : 1 ≤ s.size
  · have d1 : decide ((s.size : Int) < 1) = false:=decide_eq_false (by omega)
    by_cases h6 : s.size ≤ 6
    · have d6 : decide ((6 : Int) < s.size) = false:=decide_eq_false (by omega)
      repeat' first|first|refine s_opt1 ?_|refine s_opt0 ?_|refine s_optq1 ?_|refine s_optq0 ?_|(refine s_norm ?_;try simp only [wsN,wsI,rmv,rng,X.ev,lkp,peel,cond_true,cond_false,nbeq,Nat.reduceBEq,reduceSub,reduceAdd,zero_add,sub_zero,sub_self,length_cons,length_nil,length_append,cons_append,nil_append,append_nil])|(refine s_take fun K hK => ?_)|(refine s_cons (fun K hK => ?_) ?_)|exact s_tnil|refine s_br ?_|refine s_done ?_|refine s_seq fun K hK => ?_|refine s_region ?_|refine s_draw ?_|refine s_tree ?_|refine s_op fun K hK => ?_|refine s_opq fun K hK => ?_|refine s_ops ?_|refine s_endq ?_|simp only [go_sem,reduceToNat,reduceEq,reduceAdd,Nat.reduceBEq,reduceLeDiff,reduceLT,Int.reduceLT,reduceLE,reduceNeg,reduceCtorEq,d1,d6]|(first|(refine hK _ ?_;clear hK K)|(clear hK K;refine hK _ ?_;clear hK K)|(clear hK K;clear hK K;refine hK _ ?_;clear hK K))|refine And.intro ?_ ?_
      all_goals first|(simp;done)|skip
      refine s_loop { p : Nat × Nat // p.1 ≤ s.size ∧ Lib.decFrom p.2 (s.data.toList.drop p.1) = Lib.decFrom 0 s.data.toList ∧ p.2 < 10 ^ p.1 } (fun p => ⟨[(0,.d false (.str s)),(3,.d true (.int .i64 (p.1.2 : Int))),(4,.d true (.int .i64 (p.1.1 : Int)))],[]⟩) (fun p => s.size - p.1.1) ⟨(0,0),Nat.zero_le _,rfl,by decide⟩ ?_ ?_
      · simp [StLe,leT,leH,A.Le,A.LeL,O.Le,lkp,freeT,freeH,A.free,A.freeL,cond_true,cond_false,nbeq,nble,nblt,decide_true,decide_false,reduceLT,Nat.reduceBEq,true_and,and_true,length_cons,length_nil,true_implies,and_self,Bool.and_true,Bool.true_and,Bool.and_self]
      rintro ⟨⟨i,n⟩,hi,hd,hn⟩ K1 hK1
      replace hi : i ≤ s.size:=hi
      replace hd : Lib.decFrom n (s.data.toList.drop i) = Lib.decFrom 0 s.data.toList:=hd
      replace hn : n < 10 ^ i:=hn
      have hn6 : n < 1000000:=Nat.lt_of_lt_of_le hn (by have:=Nat.pow_le_pow_right (show 0 < 10 by decide) (show i ≤ 6 by omega);simpa using this)
      simp only
      by_cases hlt : i < s.size
      · have dl : decide ((i : Int) < s.size) = true:=decide_eq_true (Int.ofNat_lt.mpr hlt)
        obtain ⟨c,e1,e2⟩:=byte_dig hlt
        rw [e1] at hd
        simp only [Lib.decFrom,Lib.digitVal] at hd
        have hbt : (0 : Int) ≤ (i : Int) ∧ (i : Int) < s.size:=⟨Int.natCast_nonneg _,Int.ofNat_lt.mpr hlt⟩
        by_cases g1 : 48 ≤ c.toNat ∧ c.toNat ≤ 57
        · have b1 : decide ((c.toNat : Int) < 48) = false:=decide_eq_false (by omega)
          have b2 : decide ((57 : Int) < c.toNat) = false:=decide_eq_false (by omega)
          rw [if_pos g1] at hd
          simp only at hd
          obtain ⟨hw1,hw2,hw3,hw4,hwi,hn2⟩ : IntKind.i64.wrap (c.toNat : Int) = (c.toNat : Int) ∧ wrap64 (10 * (n : Int)) = ((10 * n : Nat) : Int) ∧ wrap64 (((10 * n : Nat) : Int) + (c.toNat : Int)) = ((10 * n + c.toNat : Nat) : Int) ∧ wrap64 (((10 * n + c.toNat : Nat) : Int) - 48) = ((n * 10 + (c.toNat - 48) : Nat) : Int) ∧ wrap64 ((i : Int) + 1) = ((i + 1 : Nat) : Int) ∧ n * 10 + (c.toNat - 48) < 10 ^ (i + 1) :=
            ⟨by rw [wrap64_eq];exact w64 (by omega) (by omega),by rw [w64 (by omega) (by omega)];omega,by rw [w64 (by omega) (by omega)];omega,by rw [w64 (by omega) (by omega)];omega,w64 (by omega) (by omega),by rw [Nat.pow_succ];omega⟩
          repeat' first|first|refine s_opt1 ?_|refine s_opt0 ?_|refine s_optq1 ?_|refine s_optq0 ?_|(refine s_norm ?_;try simp only [wsN,wsI,rmv,rng,X.ev,lkp,peel,cond_true,cond_false,nbeq,Nat.reduceBEq,reduceSub,reduceAdd,zero_add,sub_zero,sub_self,length_cons,length_nil,length_append,cons_append,nil_append,append_nil])|(refine s_take fun K hK => ?_)|(refine s_cons (fun K hK => ?_) ?_)|exact s_tnil|refine s_br ?_|refine s_done ?_|refine s_seq fun K hK => ?_|refine s_region ?_|refine s_draw ?_|refine s_tree ?_|refine s_op fun K hK => ?_|refine s_opq fun K hK => ?_|refine s_ops ?_|refine s_endq ?_|simp only [go_sem,reduceToNat,reduceEq,reduceAdd,Nat.reduceBEq,reduceLeDiff,reduceLT,Int.reduceLT,reduceLE,reduceNeg,reduceCtorEq,dl,e2,b1,b2,hwi,hw1,hw2,hw3,hw4]|(first|(refine hK _ ?_;clear hK K)|(clear hK K;refine hK _ ?_;clear hK K)|(clear hK K;clear hK K;refine hK _ ?_;clear hK K))|refine And.intro ?_ ?_
          all_goals first|exact hbt|exact hbt.1|exact hbt.2|(simp;done)|skip
          refine hK1 _ ⟨(i + 1,n * 10 + (c.toNat - 48)),hlt,hd,hn2⟩ ?_ (Nat.sub_lt_sub_left hlt (Nat.lt_succ_self i))
          simp [StLe,leT,leH,A.Le,A.LeL,O.Le,lkp,freeT,freeH,A.free,A.freeL,cond_true,cond_false,nbeq,nble,nblt,decide_true,decide_false,reduceLT,Nat.reduceBEq,true_and,and_true,length_cons,length_nil,true_implies,and_self,Bool.and_true,Bool.true_and,Bool.and_self]
        · rw [if_neg g1] at hd
          have hnb : numB s = -1:=by unfold numB;rw [if_pos ⟨h1,h6⟩,← hd]
          rw [hnb]
          clear hK1
          by_cases g2 : c.toNat < 48
          · have b1 : decide ((c.toNat : Int) < 48) = true:=decide_eq_true (by omega)
            repeat' first|first|refine s_opt1 ?_|refine s_opt0 ?_|refine s_optq1 ?_|refine s_optq0 ?_|(refine s_norm ?_;try simp only [wsN,wsI,rmv,rng,X.ev,lkp,peel,cond_true,cond_false,nbeq,Nat.reduceBEq,reduceSub,reduceAdd,zero_add,sub_zero,sub_self,length_cons,length_nil,length_append,cons_append,nil_append,append_nil])|(refine s_take fun K hK => ?_)|(refine s_cons (fun K hK => ?_) ?_)|exact s_tnil|refine s_br ?_|refine s_done ?_|refine s_seq fun K hK => ?_|refine s_region ?_|refine s_draw ?_|refine s_tree ?_|refine s_op fun K hK => ?_|refine s_opq fun K hK => ?_|refine s_ops ?_|refine s_endq ?_|simp only [go_sem,reduceToNat,reduceEq,reduceAdd,Nat.reduceBEq,reduceLeDiff,reduceLT,Int.reduceLT,reduceLE,reduceNeg,reduceCtorEq,dl,e2,b1]|(first|(refine hK _ ?_;clear hK K)|(clear hK K;refine hK _ ?_;clear hK K)|(clear hK K;clear hK K;refine hK _ ?_;clear hK K))|refine And.intro ?_ ?_
            all_goals first|exact hbt|exact hbt.1|exact hbt.2|(simp [go_sem,tids,A.tid,A.tid.go,cons_append,frzT,St.frz,A.sub,A.subL,O.sub,subT,subH,frzY,frzZ,Post,aret,evRs,RV.ev,tupA,A.Le,A.LeL,lkp,St.frzs,A.ids,A.idsL,cond_true,cond_false,nbeq,nble,decide_true,decide_false,reduceLeDiff,Nat.reduceBEq,reduceAdd,beq_self_eq_true,true_and,and_true,true_implies,append_nil,nil_append,getElem?_cons_zero,getElem?_cons_succ,length_cons,length_nil,drop_zero,take_succ_cons,take_zero,and_self];done)|(simp;done)|skip
          · have b1 : decide ((c.toNat : Int) < 48) = false:=decide_eq_false (by omega)
            have b2 : decide ((57 : Int) < c.toNat) = true:=decide_eq_true (by omega)
            repeat' first|first|refine s_opt1 ?_|refine s_opt0 ?_|refine s_optq1 ?_|refine s_optq0 ?_|(refine s_norm ?_;try simp only [wsN,wsI,rmv,rng,X.ev,lkp,peel,cond_true,cond_false,nbeq,Nat.reduceBEq,reduceSub,reduceAdd,zero_add,sub_zero,sub_self,length_cons,length_nil,length_append,cons_append,nil_append,append_nil])|(refine s_take fun K hK => ?_)|(refine s_cons (fun K hK => ?_) ?_)|exact s_tnil|refine s_br ?_|refine s_done ?_|refine s_seq fun K hK => ?_|refine s_region ?_|refine s_draw ?_|refine s_tree ?_|refine s_op fun K hK => ?_|refine s_opq fun K hK => ?_|refine s_ops ?_|refine s_endq ?_|simp only [go_sem,reduceToNat,reduceEq,reduceAdd,Nat.reduceBEq,reduceLeDiff,reduceLT,Int.reduceLT,reduceLE,reduceNeg,reduceCtorEq,dl,e2,b1,b2]|(first|(refine hK _ ?_;clear hK K)|(clear hK K;refine hK _ ?_;clear hK K)|(clear hK K;clear hK K;refine hK _ ?_;clear hK K))|refine And.intro ?_ ?_
            all_goals first|exact hbt|exact hbt.1|exact hbt.2|(simp [go_sem,tids,A.tid,A.tid.go,cons_append,frzT,St.frz,A.sub,A.subL,O.sub,subT,subH,frzY,frzZ,Post,aret,evRs,RV.ev,tupA,A.Le,A.LeL,lkp,St.frzs,A.ids,A.idsL,cond_true,cond_false,nbeq,nble,decide_true,decide_false,reduceLeDiff,Nat.reduceBEq,reduceAdd,beq_self_eq_true,true_and,and_true,true_implies,append_nil,nil_append,getElem?_cons_zero,getElem?_cons_succ,length_cons,length_nil,drop_zero,take_succ_cons,take_zero,and_self];done)|(simp;done)|skip
      · have dl : decide ((i : Int) < s.size) = false:=decide_eq_false (by omega)
        have hie : i = s.size:=by omega
        subst hie
        rw [List.drop_of_length_le (by rw [Lib.size_eq];exact Nat.le_refl _)] at hd
        simp only [Lib.decFrom] at hd
        have hnb : numB s = bif beqS (digB n) s && decide (n ≤ 100000) then (n : Int) else -1:=by unfold numB;rw [if_pos ⟨h1,h6⟩,← hd]
        have hdg:=digits1_ct n
        clear hK1
        cases hb : beqS (digB n) s with
        | false =>
          rw [hb] at hnb
          simp only [Bool.false_and,cond_false] at hnb
          rw [hnb]
          repeat' first|first|refine s_opt1 ?_|refine s_opt0 ?_|refine s_optq1 ?_|refine s_optq0 ?_|(refine s_norm ?_;try simp only [wsN,wsI,rmv,rng,X.ev,lkp,peel,cond_true,cond_false,nbeq,Nat.reduceBEq,reduceSub,reduceAdd,zero_add,sub_zero,sub_self,length_cons,length_nil,length_append,cons_append,nil_append,append_nil])|(refine s_take fun K hK => ?_)|(refine s_cons (fun K hK => ?_) ?_)|exact s_tnil|refine s_br ?_|refine s_done ?_|refine s_seq fun K hK => ?_|refine s_region ?_|refine s_draw ?_|refine s_tree ?_|refine s_op fun K hK => ?_|refine s_opq fun K hK => ?_|refine s_ops ?_|refine s_endq ?_|simp only [go_sem,reduceToNat,reduceEq,reduceAdd,Nat.reduceBEq,reduceLeDiff,reduceLT,Int.reduceLT,reduceLE,reduceNeg,reduceCtorEq,dl,hb]|(first|(refine hK _ ?_;clear hK K)|(clear hK K;refine hK _ ?_;clear hK K)|(clear hK K;clear hK K;refine hK _ ?_;clear hK K))|refine And.intro ?_ ?_|refine s_call hdg ?_
          all_goals first|(simp [go_sem,tids,A.tid,A.tid.go,cons_append,frzT,St.frz,A.sub,A.subL,O.sub,subT,subH,frzY,frzZ,Post,aret,evRs,RV.ev,tupA,A.Le,A.LeL,lkp,St.frzs,A.ids,A.idsL,cond_true,cond_false,nbeq,nble,decide_true,decide_false,reduceLeDiff,Nat.reduceBEq,reduceAdd,beq_self_eq_true,true_and,and_true,true_implies,append_nil,nil_append,getElem?_cons_zero,getElem?_cons_succ,length_cons,length_nil,drop_zero,take_succ_cons,take_zero,and_self];done)|(simp [go_sem,tids,A.tid,A.tid.go,cons_append,frzT,St.frz,A.sub,A.subL,O.sub,subT,subH,frzY,frzZ,Post,aret,evRs,RV.ev,tupA,A.Le,A.LeL,lkp,St.frzs,A.ids,A.idsL,cond_true,cond_false,nbeq,nble,decide_true,decide_false,reduceLeDiff,Nat.reduceBEq,reduceAdd,beq_self_eq_true,true_and,and_true,true_implies,append_nil,nil_append,getElem?_cons_zero,getElem?_cons_succ,length_cons,length_nil,drop_zero,take_succ_cons,take_zero,and_self];rw [hnb])|(simp;done)|skip
        | true =>
          rw [hb] at hnb
          by_cases hm : n ≤ 100000
          · have dm : decide ((100000 : Int) < n) = false:=decide_eq_false (by omega)
            rw [decide_eq_true hm] at hnb
            simp only [Bool.and_self,cond_true] at hnb
            rw [hnb]
            repeat' first|first|refine s_opt1 ?_|refine s_opt0 ?_|refine s_optq1 ?_|refine s_optq0 ?_|(refine s_norm ?_;try simp only [wsN,wsI,rmv,rng,X.ev,lkp,peel,cond_true,cond_false,nbeq,Nat.reduceBEq,reduceSub,reduceAdd,zero_add,sub_zero,sub_self,length_cons,length_nil,length_append,cons_append,nil_append,append_nil])|(refine s_take fun K hK => ?_)|(refine s_cons (fun K hK => ?_) ?_)|exact s_tnil|refine s_br ?_|refine s_done ?_|refine s_seq fun K hK => ?_|refine s_region ?_|refine s_draw ?_|refine s_tree ?_|refine s_op fun K hK => ?_|refine s_opq fun K hK => ?_|refine s_ops ?_|refine s_endq ?_|simp only [go_sem,reduceToNat,reduceEq,reduceAdd,Nat.reduceBEq,reduceLeDiff,reduceLT,Int.reduceLT,reduceLE,reduceNeg,reduceCtorEq,dl,hb,dm]|(first|(refine hK _ ?_;clear hK K)|(clear hK K;refine hK _ ?_;clear hK K)|(clear hK K;clear hK K;refine hK _ ?_;clear hK K))|refine And.intro ?_ ?_|refine s_call hdg ?_
            all_goals first|(simp [go_sem,tids,A.tid,A.tid.go,cons_append,frzT,St.frz,A.sub,A.subL,O.sub,subT,subH,frzY,frzZ,Post,aret,evRs,RV.ev,tupA,A.Le,A.LeL,lkp,St.frzs,A.ids,A.idsL,cond_true,cond_false,nbeq,nble,decide_true,decide_false,reduceLeDiff,Nat.reduceBEq,reduceAdd,beq_self_eq_true,true_and,and_true,true_implies,append_nil,nil_append,getElem?_cons_zero,getElem?_cons_succ,length_cons,length_nil,drop_zero,take_succ_cons,take_zero,and_self];done)|(simp [go_sem,tids,A.tid,A.tid.go,cons_append,frzT,St.frz,A.sub,A.subL,O.sub,subT,subH,frzY,frzZ,Post,aret,evRs,RV.ev,tupA,A.Le,A.LeL,lkp,St.frzs,A.ids,A.idsL,cond_true,cond_false,nbeq,nble,decide_true,decide_false,reduceLeDiff,Nat.reduceBEq,reduceAdd,beq_self_eq_true,true_and,and_true,true_implies,append_nil,nil_append,getElem?_cons_zero,getElem?_cons_succ,length_cons,length_nil,drop_zero,take_succ_cons,take_zero,and_self];rw [hnb])|(simp;done)|skip
          · have dm : decide ((100000 : Int) < n) = true:=decide_eq_true (by omega)
            rw [decide_eq_false hm] at hnb
            simp only [Bool.and_false,cond_false] at hnb
            rw [hnb]
            repeat' first|first|refine s_opt1 ?_|refine s_opt0 ?_|refine s_optq1 ?_|refine s_optq0 ?_|(refine s_norm ?_;try simp only [wsN,wsI,rmv,rng,X.ev,lkp,peel,cond_true,cond_false,nbeq,Nat.reduceBEq,reduceSub,reduceAdd,zero_add,sub_zero,sub_self,length_cons,length_nil,length_append,cons_append,nil_append,append_nil])|(refine s_take fun K hK => ?_)|(refine s_cons (fun K hK => ?_) ?_)|exact s_tnil|refine s_br ?_|refine s_done ?_|refine s_seq fun K hK => ?_|refine s_region ?_|refine s_draw ?_|refine s_tree ?_|refine s_op fun K hK => ?_|refine s_opq fun K hK => ?_|refine s_ops ?_|refine s_endq ?_|simp only [go_sem,reduceToNat,reduceEq,reduceAdd,Nat.reduceBEq,reduceLeDiff,reduceLT,Int.reduceLT,reduceLE,reduceNeg,reduceCtorEq,dl,hb,dm]|(first|(refine hK _ ?_;clear hK K)|(clear hK K;refine hK _ ?_;clear hK K)|(clear hK K;clear hK K;refine hK _ ?_;clear hK K))|refine And.intro ?_ ?_|refine s_call hdg ?_
            all_goals first|(simp [go_sem,tids,A.tid,A.tid.go,cons_append,frzT,St.frz,A.sub,A.subL,O.sub,subT,subH,frzY,frzZ,Post,aret,evRs,RV.ev,tupA,A.Le,A.LeL,lkp,St.frzs,A.ids,A.idsL,cond_true,cond_false,nbeq,nble,decide_true,decide_false,reduceLeDiff,Nat.reduceBEq,reduceAdd,beq_self_eq_true,true_and,and_true,true_implies,append_nil,nil_append,getElem?_cons_zero,getElem?_cons_succ,length_cons,length_nil,drop_zero,take_succ_cons,take_zero,and_self];done)|(simp [go_sem,tids,A.tid,A.tid.go,cons_append,frzT,St.frz,A.sub,A.subL,O.sub,subT,subH,frzY,frzZ,Post,aret,evRs,RV.ev,tupA,A.Le,A.LeL,lkp,St.frzs,A.ids,A.idsL,cond_true,cond_false,nbeq,nble,decide_true,decide_false,reduceLeDiff,Nat.reduceBEq,reduceAdd,beq_self_eq_true,true_and,and_true,true_implies,append_nil,nil_append,getElem?_cons_zero,getElem?_cons_succ,length_cons,length_nil,drop_zero,take_succ_cons,take_zero,and_self];rw [hnb])|(simp;done)|skip
    · have d6 : decide ((6 : Int) < s.size) = true:=decide_eq_true (by omega)
      have hnb : numB s = -1:=by unfold numB;rw [if_neg (by omega)]
      rw [hnb]
      repeat' first|first|refine s_opt1 ?_|refine s_opt0 ?_|refine s_optq1 ?_|refine s_optq0 ?_|(refine s_norm ?_;try simp only [wsN,wsI,rmv,rng,X.ev,lkp,peel,cond_true,cond_false,nbeq,Nat.reduceBEq,reduceSub,reduceAdd,zero_add,sub_zero,sub_self,length_cons,length_nil,length_append,cons_append,nil_append,append_nil])|(refine s_take fun K hK => ?_)|(refine s_cons (fun K hK => ?_) ?_)|exact s_tnil|refine s_br ?_|refine s_done ?_|refine s_seq fun K hK => ?_|refine s_region ?_|refine s_draw ?_|refine s_tree ?_|refine s_op fun K hK => ?_|refine s_opq fun K hK => ?_|refine s_ops ?_|refine s_endq ?_|simp only [go_sem,reduceToNat,reduceEq,reduceAdd,Nat.reduceBEq,reduceLeDiff,reduceLT,Int.reduceLT,reduceLE,reduceNeg,reduceCtorEq,d1,d6]|(first|(refine hK _ ?_;clear hK K)|(clear hK K;refine hK _ ?_;clear hK K)|(clear hK K;clear hK K;refine hK _ ?_;clear hK K))|refine And.intro ?_ ?_
      all_goals first|(simp [go_sem,tids,A.tid,A.tid.go,cons_append,frzT,St.frz,A.sub,A.subL,O.sub,subT,subH,frzY,frzZ,Post,aret,evRs,RV.ev,tupA,A.Le,A.LeL,lkp,St.frzs,A.ids,A.idsL,cond_true,cond_false,nbeq,nble,decide_true,decide_false,reduceLeDiff,Nat.reduceBEq,reduceAdd,beq_self_eq_true,true_and,and_true,true_implies,append_nil,nil_append,getElem?_cons_zero,getElem?_cons_succ,length_cons,length_nil,drop_zero,take_succ_cons,take_zero,and_self];done)|(simp [go_sem,tids,A.tid,A.tid.go,cons_append,frzT,St.frz,A.sub,A.subL,O.sub,subT,subH,frzY,frzZ,Post,aret,evRs,RV.ev,tupA,A.Le,A.LeL,lkp,St.frzs,A.ids,A.idsL,cond_true,cond_false,nbeq,nble,decide_true,decide_false,reduceLeDiff,Nat.reduceBEq,reduceAdd,beq_self_eq_true,true_and,and_true,true_implies,append_nil,nil_append,getElem?_cons_zero,getElem?_cons_succ,length_cons,length_nil,drop_zero,take_succ_cons,take_zero,and_self];rw [hnb])|(simp;done)|skip
  · have d1 : decide ((s.size : Int) < 1) = true:=decide_eq_true (by omega)
    have hnb : numB s = -1:=by unfold numB;rw [if_neg (by omega)]
    rw [hnb]
    repeat' first|first|refine s_opt1 ?_|refine s_opt0 ?_|refine s_optq1 ?_|refine s_optq0 ?_|(refine s_norm ?_;try simp only [wsN,wsI,rmv,rng,X.ev,lkp,peel,cond_true,cond_false,nbeq,Nat.reduceBEq,reduceSub,reduceAdd,zero_add,sub_zero,sub_self,length_cons,length_nil,length_append,cons_append,nil_append,append_nil])|(refine s_take fun K hK => ?_)|(refine s_cons (fun K hK => ?_) ?_)|exact s_tnil|refine s_br ?_|refine s_done ?_|refine s_seq fun K hK => ?_|refine s_region ?_|refine s_draw ?_|refine s_tree ?_|refine s_op fun K hK => ?_|refine s_opq fun K hK => ?_|refine s_ops ?_|refine s_endq ?_|simp only [go_sem,reduceToNat,reduceEq,reduceAdd,Nat.reduceBEq,reduceLeDiff,reduceLT,Int.reduceLT,reduceLE,reduceNeg,reduceCtorEq,d1]|(first|(refine hK _ ?_;clear hK K)|(clear hK K;refine hK _ ?_;clear hK K)|(clear hK K;clear hK K;refine hK _ ?_;clear hK K))|refine And.intro ?_ ?_
    all_goals first|(simp [go_sem,tids,A.tid,A.tid.go,cons_append,frzT,St.frz,A.sub,A.subL,O.sub,subT,subH,frzY,frzZ,Post,aret,evRs,RV.ev,tupA,A.Le,A.LeL,lkp,St.frzs,A.ids,A.idsL,cond_true,cond_false,nbeq,nble,decide_true,decide_false,reduceLeDiff,Nat.reduceBEq,reduceAdd,beq_self_eq_true,true_and,and_true,true_implies,append_nil,nil_append,getElem?_cons_zero,getElem?_cons_succ,length_cons,length_nil,drop_zero,take_succ_cons,take_zero,and_self];done)|(simp [go_sem,tids,A.tid,A.tid.go,cons_append,frzT,St.frz,A.sub,A.subL,O.sub,subT,subH,frzY,frzZ,Post,aret,evRs,RV.ev,tupA,A.Le,A.LeL,lkp,St.frzs,A.ids,A.idsL,cond_true,cond_false,nbeq,nble,decide_true,decide_false,reduceLeDiff,Nat.reduceBEq,reduceAdd,beq_self_eq_true,true_and,and_true,true_implies,append_nil,nil_append,getElem?_cons_zero,getElem?_cons_succ,length_cons,length_nil,drop_zero,take_succ_cons,take_zero,and_self];rw [hnb])|(simp;done)|skip
end Go.Proofs.YtlddcimpdkcgeaaGreatDoor
