/- What can be taken apart: one step of each. -/
import Derived.Test.YtlddcimpdkcgeaaDoorF24
import Derived.Test.YtlddcimpdkcgeaaDoorF8
set_option linter.unusedVariables false
set_option linter.unusedSimpArgs false
set_option maxRecDepth 20000
set_option maxHeartbeats 8000000
namespace Go.Proofs.YtlddcimpdkcgeaaDoor
open Go Go.RowKit Sym
attribute [local irreducible] awp aops aopsQ gop gopQ gopO gopOQ gopV gopT awpN awpT awpTs ACall after

/-- Whether a term is new, and there is room. -/
def newB (l : List Term) (t : Term) : Bool:=bif decide (300 ≤ l.length) then false else !hasT l t
theorem addT_new {l : List Term} {t : Term} (h : newB l t = true) : addT l t = l ++ [t]:=by
  unfold newB at h;unfold addT
  cases hd : decide (300 ≤ l.length) with
  | true => rw [hd] at h;cases h
  | false =>
    rw [hd] at h
    cases hh : hasT l t with
    | true => rw [hh] at h;cases h
    | false => rfl
theorem addT_no {l : List Term} {t : Term} (h : newB l t = false) : addT l t = l:=by
  unfold newB at h;unfold addT
  cases hd : decide (300 ≤ l.length) with
  | true => rfl
  | false =>
    rw [hd] at h
    cases hh : hasT l t with
    | true => rfl
    | false => rw [hh] at h;cases h
theorem newB_lt {l : List Term} {t : Term} (h : newB l t = true) : l.length < 300 ∧ hasT l t = false:=by
  unfold newB at h
  cases hd : decide (300 ≤ l.length) with
  | true => rw [hd] at h;cases h
  | false =>
    rw [hd] at h
    have:=of_decide_eq_false hd
    exact ⟨by omega,by simpa using h⟩
def zeroE : List D:=[.int .i64 0,.int .i64 0,.str ⟨#[]⟩,.sl []]
theorem zero_set (l : List Term) (t : Term) : (encs l ++ [zeroE]).set l.length t.enc = encs (l ++ [t]):=by
  rw [encs_app,List.set_append_right _ _ (by rw [encs_length];exact Nat.le_refl _),encs_length,Nat.sub_self]
  rfl
theorem enc_one (l : List Term) (t : Term) : encs l ++ [[.int .i64 t.op,.int .i64 t.n,.str t.s,.sl (encs t.kids)]] = encs (l ++ [t]):=by
  rw [encs_app];simp [encs,Term.enc_eq]

@[reducible] def knO : O:=.box [.osl 1]
@[reducible] def knR (l : List Term) : O:=.row true 28 4 (encs l)
def AddQ (l : List Term) (t : Term) (r : A) (hs : List O) : Prop:=r = .d true (.bool (newB l t)) ∧ hs = [knO,knR (addT l t)]
theorem add_ct (l : List Term) (t : Term) (hl : l.length ≤ 300) (ht : t.cnt ≤ 8388608) : CtH Tryd.prog 78 [.ptr 0 0,t.v] [knO,knR l] (AddQ l t):=by
  have hc:=has2_ct l t
  have hk:=clone_own t ht
  refine ok78.ctH mo Tryd.func78 (by simp) fun βs hok hl' => ?_
  match βs,hl' with
  | [v,v'],_ =>
  unfold ac78
  simp only [pinsL,enumT,List.cons_append,List.nil_append,List.length_cons,List.length_nil]
  have hlen:=encs_length l
  simp only [Term.v_eq] at *
  cases hd : decide (300 ≤ l.length) with
  | true =>
    have d1 : decide ((300 : Int) ≤ l.length) = true:=decide_eq_true (by have:=of_decide_eq_true hd;omega)
    have hn : newB l t = false:=by unfold newB;rw [hd];rfl
    have ha:=addT_no hn
    repeat' first|assumption|first|refine s_opt1 ?_|refine s_opt0 ?_|refine s_optq1 ?_|refine s_optq0 ?_|(refine s_norm ?_;try simp only [wsN,wsI,rmv,rng,X.ev,lkp,peel,cond_true,cond_false,nbeq,Nat.reduceBEq,Nat.reduceSub,Nat.reduceAdd,Nat.zero_add,Nat.sub_zero,Nat.sub_self,List.length_cons,List.length_nil,List.length_append,List.cons_append,List.nil_append,List.append_nil])|(refine s_take fun K hK => ?_)|(refine s_cons (fun K hK => ?_) ?_)|exact s_tnil|refine s_br ?_|refine s_done ?_|refine s_seq fun K hK => ?_|refine s_region ?_|refine s_draw ?_|refine s_tree ?_|refine s_op fun K hK => ?_|refine s_opq fun K hK => ?_|refine s_ops ?_|refine s_endq ?_|simp only [go_sem,Int.reduceToNat,Int.reduceEq,Nat.reduceAdd,Nat.reduceBEq,Nat.reduceLeDiff,Nat.reduceLT,Int.reduceLT,Int.reduceLE,Int.reduceNeg,reduceCtorEq,d1,hlen]|(first|(refine hK _ ?_;clear hK K)|(clear hK K;refine hK _ ?_;clear hK K)|(clear hK K;clear hK K;refine hK _ ?_;clear hK K))|refine And.intro ?_ ?_|refine s_callq hc rfl ?_
    all_goals first|(show PostH _ _ _ _ _ _;exact ⟨[],.d true (.bool false),[knO,knR l],⟨by rw [hn],by rw [ha]⟩,by simp,by simp [StLe,leT,leH,A.Le,A.LeL,O.Le,lkp,freeT,freeH,A.free,A.freeL,cond_true,cond_false,nbeq,nble,nblt,decide_true,decide_false,Nat.reduceLT,Nat.reduceBEq,true_and,and_true,List.length_cons,List.length_nil,true_implies,and_self,Bool.and_true,Bool.true_and,Bool.and_self,St.frzs],by simp [St.frzs,evRs,RV.ev,tupA,A.Le,lkp],rfl⟩)|(simp;done)|skip
  | false =>
    have d1 : decide ((300 : Int) ≤ l.length) = false:=decide_eq_false (by have:=of_decide_eq_false hd;omega)
    cases hh : hasT l t with
    | true =>
      rw [hh] at hc
      have hn : newB l t = false:=by unfold newB;rw [hd,hh];rfl
      have ha:=addT_no hn
      repeat' first|assumption|first|refine s_opt1 ?_|refine s_opt0 ?_|refine s_optq1 ?_|refine s_optq0 ?_|(refine s_norm ?_;try simp only [wsN,wsI,rmv,rng,X.ev,lkp,peel,cond_true,cond_false,nbeq,Nat.reduceBEq,Nat.reduceSub,Nat.reduceAdd,Nat.zero_add,Nat.sub_zero,Nat.sub_self,List.length_cons,List.length_nil,List.length_append,List.cons_append,List.nil_append,List.append_nil])|(refine s_take fun K hK => ?_)|(refine s_cons (fun K hK => ?_) ?_)|exact s_tnil|refine s_br ?_|refine s_done ?_|refine s_seq fun K hK => ?_|refine s_region ?_|refine s_draw ?_|refine s_tree ?_|refine s_op fun K hK => ?_|refine s_opq fun K hK => ?_|refine s_ops ?_|refine s_endq ?_|simp only [go_sem,Int.reduceToNat,Int.reduceEq,Nat.reduceAdd,Nat.reduceBEq,Nat.reduceLeDiff,Nat.reduceLT,Int.reduceLT,Int.reduceLE,Int.reduceNeg,reduceCtorEq,d1,hlen]|(first|(refine hK _ ?_;clear hK K)|(clear hK K;refine hK _ ?_;clear hK K)|(clear hK K;clear hK K;refine hK _ ?_;clear hK K))|refine And.intro ?_ ?_|refine s_callq hc rfl ?_
      all_goals first|(show PostH _ _ _ _ _ _;exact ⟨[],.d true (.bool false),[knO,knR l],⟨by rw [hn],by rw [ha]⟩,by simp,by simp [StLe,leT,leH,A.Le,A.LeL,O.Le,lkp,freeT,freeH,A.free,A.freeL,cond_true,cond_false,nbeq,nble,nblt,decide_true,decide_false,Nat.reduceLT,Nat.reduceBEq,true_and,and_true,List.length_cons,List.length_nil,true_implies,and_self,Bool.and_true,Bool.true_and,Bool.and_self,St.frzs],by simp [St.frzs,evRs,RV.ev,tupA,A.Le,lkp],rfl⟩)|(simp;done)|skip
    | false =>
      rw [hh] at hc
      have hn : newB l t = true:=by unfold newB;rw [hd,hh];rfl
      have ha:=addT_new hn
      have hlt:=(newB_lt hn).1
      have hz:=zero_set l t
      simp only [zeroE,Term.enc_eq] at hz
      repeat' first|assumption|first|refine s_opt1 ?_|refine s_opt0 ?_|refine s_optq1 ?_|refine s_optq0 ?_|(refine s_norm ?_;try simp only [wsN,wsI,rmv,rng,X.ev,lkp,peel,cond_true,cond_false,nbeq,Nat.reduceBEq,Nat.reduceSub,Nat.reduceAdd,Nat.zero_add,Nat.sub_zero,Nat.sub_self,List.length_cons,List.length_nil,List.length_append,List.cons_append,List.nil_append,List.append_nil])|(refine s_take fun K hK => ?_)|(refine s_cons (fun K hK => ?_) ?_)|exact s_tnil|refine s_br ?_|refine s_done ?_|refine s_seq fun K hK => ?_|refine s_region ?_|refine s_draw ?_|refine s_tree ?_|refine s_op fun K hK => ?_|refine s_opq fun K hK => ?_|refine s_ops ?_|refine s_endq ?_|simp only [go_sem,Int.reduceToNat,Int.reduceEq,Nat.reduceAdd,Nat.reduceBEq,Nat.reduceLeDiff,Nat.reduceLT,Int.reduceLT,Int.reduceLE,Int.reduceNeg,reduceCtorEq,d1,hlen,Int.toNat_natCast,hz]|(first|(refine hK _ ?_;clear hK K)|(clear hK K;refine hK _ ?_;clear hK K)|(clear hK K;clear hK K;refine hK _ ?_;clear hK K))|refine And.intro ?_ ?_|refine s_callq hc rfl ?_|refine s_call hk ?_
      all_goals first|(show PostH _ _ _ _ _ _;exact ⟨[],.d true (.bool true),[knO,knR (l ++ [t])],⟨by rw [hn],by rw [ha]⟩,by simp,by simp [StLe,leT,leH,A.Le,A.LeL,O.Le,lkp,freeT,freeH,A.free,A.freeL,cond_true,cond_false,nbeq,nble,nblt,decide_true,decide_false,Nat.reduceLT,Nat.reduceBEq,true_and,and_true,List.length_cons,List.length_nil,true_implies,and_self,Bool.and_true,Bool.true_and,Bool.and_self,St.frzs],by simp [St.frzs,evRs,RV.ev,tupA,A.Le,lkp],rfl⟩)|(simp;done)|omega|skip
@[reducible] def kn0 : O:=.box [.nil]
def Add0Q (t : Term) (r : A) (hs : List O) : Prop:=r = .d true (.bool true) ∧ hs = [knO,knR [t]]
theorem add0_ct (t : Term) (ht : t.cnt ≤ 8388608) : CtH Tryd.prog 78 [.ptr 0 0,t.v] [kn0] (Add0Q t):=by
  have hc:=has2_ct [] t
  have hk:=clone_own t ht
  have hz:=zero_set [] t
  change Ct _ _ _ (.d true (.bool false)) at hc
  refine ok78.ctS mo Tryd.func78 (by simp) fun βs hok hl' => ?_
  match βs,hl' with
  | [v],_ =>
  unfold ac78
  simp only [pinsL,enumT,List.cons_append,List.nil_append,List.length_cons,List.length_nil]
  simp only [Term.v_eq,zeroE,Term.enc_eq,encs,List.nil_append,List.length_nil,List.set_cons_zero] at *
  repeat' first|assumption|first|refine s_opt1 ?_|refine s_opt0 ?_|refine s_optq1 ?_|refine s_optq0 ?_|(refine s_norm ?_;try simp only [wsN,wsI,rmv,rng,X.ev,lkp,peel,cond_true,cond_false,nbeq,Nat.reduceBEq,Nat.reduceSub,Nat.reduceAdd,Nat.zero_add,Nat.sub_zero,Nat.sub_self,List.length_cons,List.length_nil,List.length_append,List.cons_append,List.nil_append,List.append_nil])|(refine s_take fun K hK => ?_)|(refine s_cons (fun K hK => ?_) ?_)|exact s_tnil|refine s_br ?_|refine s_done ?_|refine s_seq fun K hK => ?_|refine s_region ?_|refine s_draw ?_|refine s_tree ?_|refine s_op fun K hK => ?_|refine s_opq fun K hK => ?_|refine s_ops ?_|refine s_endq ?_|simp only [go_sem,Int.reduceToNat,Int.reduceEq,Nat.reduceAdd,Nat.reduceBEq,Nat.reduceLeDiff,Nat.reduceLT,Int.reduceLT,Int.reduceLE,Int.reduceNeg,reduceCtorEq]|(first|(refine hK _ ?_;clear hK K)|(clear hK K;refine hK _ ?_;clear hK K)|(clear hK K;clear hK K;refine hK _ ?_;clear hK K))|refine And.intro ?_ ?_|refine s_callq hc rfl ?_|refine s_call hk ?_
  all_goals first|(show PostS _ _ _ _ _ _;exact ⟨[],[0,4],.d true (.bool true),⟨[(1000000,.pin 0 v)],[.box [.osl 4],.dead,.dead,.dead,knR [t]]⟩,[knO,knR [t]],⟨rfl,rfl⟩,by simp,by simp [StLe,leT,leH,A.Le,A.LeL,O.Le,lkp,freeT,freeH,A.free,A.freeL,cond_true,cond_false,nbeq,nble,nblt,decide_true,decide_false,Nat.reduceLT,Nat.reduceBEq,true_and,and_true,List.length_cons,List.length_nil,true_implies,and_self,Bool.and_true,Bool.true_and,Bool.and_self,St.frzs,encs,Term.enc_eq],by simp [leT,lkp,A.Le],(fun k h => by have h0 : k = 0:=(by simp at h;exact h);subst h0;rfl),by decide,rfl,by simp [St.frzs,evRs,RV.ev,tupA,A.Le,A.LeL,lkp],rfl⟩)|(show PostS _ _ _ _ _ _;exact ⟨[],[0,3],.d true (.bool true),⟨[(1000000,.pin 0 v)],[.box [.osl 3],.dead,.dead,knR [t]]⟩,[knO,knR [t]],⟨rfl,rfl⟩,by simp,by simp [StLe,leT,leH,A.Le,A.LeL,O.Le,lkp,freeT,freeH,A.free,A.freeL,cond_true,cond_false,nbeq,nble,nblt,decide_true,decide_false,Nat.reduceLT,Nat.reduceBEq,true_and,and_true,List.length_cons,List.length_nil,true_implies,and_self,Bool.and_true,Bool.true_and,Bool.and_self,St.frzs,encs,Term.enc_eq],by simp [leT,lkp,A.Le],(fun k h => by have h0 : k = 0:=(by simp at h;exact h);subst h0;rfl),by decide,rfl,by simp [St.frzs,evRs,RV.ev,tupA,A.Le,A.LeL,lkp],rfl⟩)|(simp;done)|omega|skip
def ApartQ (l : List Term) (t : Term) (r : A) (hs : List O) : Prop:=r = .d false (.sl (encs (apartT l t))) ∧ hs = [knO,knR l]
theorem apart_ct (l : List Term) (t : Term) (ht : rightT t = true) : CtH Tryd.prog 79 [.ptr 0 0,t.v] [knO,knR l] (ApartQ l t):=by
  refine ok79.ctH mo Tryd.func79 (by simp) fun βs hok hl' => ?_
  match βs,hl' with
  | [v,v'],_ =>
  unfold ac79
  simp only [pinsL,enumT,List.cons_append,List.nil_append,List.length_cons,List.length_nil]
  simp only [Term.v_eq] at *
  by_cases h3 : t.op = 3
  · have d3 : decide (t.op = 3) = true:=decide_eq_true h3
    have ha : apartT l t = t.kids:=by unfold apartT;rw [if_pos h3]
    repeat' first|assumption|first|refine s_opt1 ?_|refine s_opt0 ?_|refine s_optq1 ?_|refine s_optq0 ?_|(refine s_norm ?_;try simp only [wsN,wsI,rmv,rng,X.ev,lkp,peel,cond_true,cond_false,nbeq,Nat.reduceBEq,Nat.reduceSub,Nat.reduceAdd,Nat.zero_add,Nat.sub_zero,Nat.sub_self,List.length_cons,List.length_nil,List.length_append,List.cons_append,List.nil_append,List.append_nil])|(refine s_take fun K hK => ?_)|(refine s_cons (fun K hK => ?_) ?_)|exact s_tnil|refine s_br ?_|refine s_done ?_|refine s_seq fun K hK => ?_|refine s_region ?_|refine s_draw ?_|refine s_tree ?_|refine s_op fun K hK => ?_|refine s_opq fun K hK => ?_|refine s_ops ?_|refine s_endq ?_|simp only [go_sem,Int.reduceToNat,Int.reduceEq,Nat.reduceAdd,Nat.reduceBEq,Nat.reduceLeDiff,Nat.reduceLT,Int.reduceLT,Int.reduceLE,Int.reduceNeg,reduceCtorEq,d3]|(first|(refine hK _ ?_;clear hK K)|(clear hK K;refine hK _ ?_;clear hK K)|(clear hK K;clear hK K;refine hK _ ?_;clear hK K))|refine And.intro ?_ ?_
    all_goals first|(show PostH _ _ _ _ _ _;exact ⟨[],.d false (.sl (encs t.kids)),[knO,knR l],⟨by rw [ha],rfl⟩,by simp,by simp [StLe,leT,leH,A.Le,A.LeL,O.Le,lkp,freeT,freeH,A.free,A.freeL,cond_true,cond_false,nbeq,nble,nblt,decide_true,decide_false,Nat.reduceLT,Nat.reduceBEq,true_and,and_true,List.length_cons,List.length_nil,true_implies,and_self,Bool.and_true,Bool.true_and,Bool.and_self,St.frzs],by simp [St.frzs,evRs,RV.ev,tupA,A.Le,lkp],rfl⟩)|(simp;done)|skip
  · have d3 : decide (t.op = 3) = false:=decide_eq_false h3
    by_cases h8 : t.op = 8
    · have d8 : decide (t.op = 8) = true:=decide_eq_true h8
      obtain ⟨x,y,hk⟩:=two_kids ht (by rw [h8];rfl)
      have ha : apartT l t = [y]:=by unfold apartT;rw [if_neg h3,if_pos h8,hk];rfl
      rw [hk]
      repeat' first|assumption|first|refine s_opt1 ?_|refine s_opt0 ?_|refine s_optq1 ?_|refine s_optq0 ?_|(refine s_norm ?_;try simp only [wsN,wsI,rmv,rng,X.ev,lkp,peel,cond_true,cond_false,nbeq,Nat.reduceBEq,Nat.reduceSub,Nat.reduceAdd,Nat.zero_add,Nat.sub_zero,Nat.sub_self,List.length_cons,List.length_nil,List.length_append,List.cons_append,List.nil_append,List.append_nil])|(refine s_take fun K hK => ?_)|(refine s_cons (fun K hK => ?_) ?_)|exact s_tnil|refine s_br ?_|refine s_done ?_|refine s_seq fun K hK => ?_|refine s_region ?_|refine s_draw ?_|refine s_tree ?_|refine s_op fun K hK => ?_|refine s_opq fun K hK => ?_|refine s_ops ?_|refine s_endq ?_|simp only [go_sem,Int.reduceToNat,Int.reduceEq,Nat.reduceAdd,Nat.reduceBEq,Nat.reduceLeDiff,Nat.reduceLT,Int.reduceLT,Int.reduceLE,Int.reduceNeg,reduceCtorEq,d3,d8,encs]|(first|(refine hK _ ?_;clear hK K)|(clear hK K;refine hK _ ?_;clear hK K)|(clear hK K;clear hK K;refine hK _ ?_;clear hK K))|refine And.intro ?_ ?_
      all_goals first|(show PostH _ _ _ _ _ _;exact ⟨[],.d false (.sl (encs [y])),[knO,knR l],⟨by rw [ha],rfl⟩,by simp,by simp [StLe,leT,leH,A.Le,A.LeL,O.Le,lkp,freeT,freeH,A.free,A.freeL,cond_true,cond_false,nbeq,nble,nblt,decide_true,decide_false,Nat.reduceLT,Nat.reduceBEq,true_and,and_true,List.length_cons,List.length_nil,true_implies,and_self,Bool.and_true,Bool.true_and,Bool.and_self,St.frzs],by simp [St.frzs,evRs,RV.ev,tupA,A.Le,lkp,encs],rfl⟩)|(simp;done)|(simp [enc_length];done)|skip
    · have d8 : decide (t.op = 8) = false:=decide_eq_false h8
      by_cases h7 : t.op = 7
      · have d7 : decide (t.op = 7) = true:=decide_eq_true h7
        obtain ⟨x,y,hk⟩:=two_kids ht (by rw [h7];rfl)
        have hm:=madeB2_ct l x
        have ha : apartT l t = bif madeB l x then [y] else []:=by unfold apartT;rw [if_neg h3,if_neg h8,if_pos h7,hk]
        rw [hk]
        simp only [Term.v_eq] at hm
        cases hmm : madeB l x with
        | true =>
          rw [hmm] at hm ha
          simp only [cond_true] at ha
          repeat' first|assumption|first|refine s_opt1 ?_|refine s_opt0 ?_|refine s_optq1 ?_|refine s_optq0 ?_|(refine s_norm ?_;try simp only [wsN,wsI,rmv,rng,X.ev,lkp,peel,cond_true,cond_false,nbeq,Nat.reduceBEq,Nat.reduceSub,Nat.reduceAdd,Nat.zero_add,Nat.sub_zero,Nat.sub_self,List.length_cons,List.length_nil,List.length_append,List.cons_append,List.nil_append,List.append_nil])|(refine s_take fun K hK => ?_)|(refine s_cons (fun K hK => ?_) ?_)|exact s_tnil|refine s_br ?_|refine s_done ?_|refine s_seq fun K hK => ?_|refine s_region ?_|refine s_draw ?_|refine s_tree ?_|refine s_op fun K hK => ?_|refine s_opq fun K hK => ?_|refine s_ops ?_|refine s_endq ?_|simp only [go_sem,Int.reduceToNat,Int.reduceEq,Nat.reduceAdd,Nat.reduceBEq,Nat.reduceLeDiff,Nat.reduceLT,Int.reduceLT,Int.reduceLE,Int.reduceNeg,reduceCtorEq,d3,d8,d7,encs,Term.enc_eq,List.getD_cons_zero]|(first|(refine hK _ ?_;clear hK K)|(clear hK K;refine hK _ ?_;clear hK K)|(clear hK K;clear hK K;refine hK _ ?_;clear hK K))|refine And.intro ?_ ?_|refine s_callq hm rfl ?_
          all_goals first|(show PostH _ _ _ _ _ _;exact ⟨[],.d false (.sl (encs [y])),[knO,knR l],⟨by rw [ha],rfl⟩,by simp,by simp [StLe,leT,leH,A.Le,A.LeL,O.Le,lkp,freeT,freeH,A.free,A.freeL,cond_true,cond_false,nbeq,nble,nblt,decide_true,decide_false,Nat.reduceLT,Nat.reduceBEq,true_and,and_true,List.length_cons,List.length_nil,true_implies,and_self,Bool.and_true,Bool.true_and,Bool.and_self,St.frzs],by simp [St.frzs,evRs,RV.ev,tupA,A.Le,lkp,encs,Term.enc_eq],rfl⟩)|(simp;done)|(simp [enc_length];done)|skip
        | false =>
          rw [hmm] at hm ha
          simp only [cond_false] at ha
          repeat' first|assumption|first|refine s_opt1 ?_|refine s_opt0 ?_|refine s_optq1 ?_|refine s_optq0 ?_|(refine s_norm ?_;try simp only [wsN,wsI,rmv,rng,X.ev,lkp,peel,cond_true,cond_false,nbeq,Nat.reduceBEq,Nat.reduceSub,Nat.reduceAdd,Nat.zero_add,Nat.sub_zero,Nat.sub_self,List.length_cons,List.length_nil,List.length_append,List.cons_append,List.nil_append,List.append_nil])|(refine s_take fun K hK => ?_)|(refine s_cons (fun K hK => ?_) ?_)|exact s_tnil|refine s_br ?_|refine s_done ?_|refine s_seq fun K hK => ?_|refine s_region ?_|refine s_draw ?_|refine s_tree ?_|refine s_op fun K hK => ?_|refine s_opq fun K hK => ?_|refine s_ops ?_|refine s_endq ?_|simp only [go_sem,Int.reduceToNat,Int.reduceEq,Nat.reduceAdd,Nat.reduceBEq,Nat.reduceLeDiff,Nat.reduceLT,Int.reduceLT,Int.reduceLE,Int.reduceNeg,reduceCtorEq,d3,d8,d7,encs,Term.enc_eq,List.getD_cons_zero]|(first|(refine hK _ ?_;clear hK K)|(clear hK K;refine hK _ ?_;clear hK K)|(clear hK K;clear hK K;refine hK _ ?_;clear hK K))|refine And.intro ?_ ?_|refine s_callq hm rfl ?_
          all_goals first|(show PostH _ _ _ _ _ _;exact ⟨[4],.d false (.sl (encs [])),[knO,knR l],⟨by rw [ha],rfl⟩,by simp,by simp [StLe,leT,leH,A.Le,A.LeL,O.Le,lkp,freeT,freeH,A.free,A.freeL,cond_true,cond_false,nbeq,nble,nblt,decide_true,decide_false,Nat.reduceLT,Nat.reduceBEq,true_and,and_true,List.length_cons,List.length_nil,true_implies,and_self,Bool.and_true,Bool.true_and,Bool.and_self,tids,A.tid,A.tid.go,List.cons_append,frzT,St.frz,A.sub,A.subL,O.sub,subT,subH,frzY,frzZ,Post,aret,evRs,RV.ev,tupA,A.Le,A.LeL,lkp,St.frzs,St.frz,A.ids,A.idsL,cond_true,cond_false,nbeq,nble,decide_true,decide_false,Nat.reduceLeDiff,Nat.reduceBEq,Nat.reduceAdd,beq_self_eq_true,true_and,and_true,true_implies,List.append_nil,List.nil_append,List.getElem?_cons_zero,List.getElem?_cons_succ,List.length_cons,List.length_nil,List.drop_zero,List.take_succ_cons,List.take_zero,and_self],by simp [tids,A.tid,A.tid.go,List.cons_append,frzT,St.frz,A.sub,A.subL,O.sub,subT,subH,frzY,frzZ,Post,aret,evRs,RV.ev,tupA,A.Le,A.LeL,lkp,St.frzs,St.frz,A.ids,A.idsL,cond_true,cond_false,nbeq,nble,decide_true,decide_false,Nat.reduceLeDiff,Nat.reduceBEq,Nat.reduceAdd,beq_self_eq_true,true_and,and_true,true_implies,List.append_nil,List.nil_append,List.getElem?_cons_zero,List.getElem?_cons_succ,List.length_cons,List.length_nil,List.drop_zero,List.take_succ_cons,List.take_zero,and_self,RV.ev,A.LeL,encs],rfl⟩)|(simp;done)|(simp [enc_length];done)|skip
      · have d7 : decide (t.op = 7) = false:=decide_eq_false h7
        have ha : apartT l t = []:=by unfold apartT;rw [if_neg h3,if_neg h8,if_neg h7]
        repeat' first|assumption|first|refine s_opt1 ?_|refine s_opt0 ?_|refine s_optq1 ?_|refine s_optq0 ?_|(refine s_norm ?_;try simp only [wsN,wsI,rmv,rng,X.ev,lkp,peel,cond_true,cond_false,nbeq,Nat.reduceBEq,Nat.reduceSub,Nat.reduceAdd,Nat.zero_add,Nat.sub_zero,Nat.sub_self,List.length_cons,List.length_nil,List.length_append,List.cons_append,List.nil_append,List.append_nil])|(refine s_take fun K hK => ?_)|(refine s_cons (fun K hK => ?_) ?_)|exact s_tnil|refine s_br ?_|refine s_done ?_|refine s_seq fun K hK => ?_|refine s_region ?_|refine s_draw ?_|refine s_tree ?_|refine s_op fun K hK => ?_|refine s_opq fun K hK => ?_|refine s_ops ?_|refine s_endq ?_|simp only [go_sem,Int.reduceToNat,Int.reduceEq,Nat.reduceAdd,Nat.reduceBEq,Nat.reduceLeDiff,Nat.reduceLT,Int.reduceLT,Int.reduceLE,Int.reduceNeg,reduceCtorEq,d3,d8,d7]|(first|(refine hK _ ?_;clear hK K)|(clear hK K;refine hK _ ?_;clear hK K)|(clear hK K;clear hK K;refine hK _ ?_;clear hK K))|refine And.intro ?_ ?_
        all_goals first|(show PostH _ _ _ _ _ _;exact ⟨[4],.d false (.sl (encs [])),[knO,knR l],⟨by rw [ha],rfl⟩,by simp,by simp [StLe,leT,leH,A.Le,A.LeL,O.Le,lkp,freeT,freeH,A.free,A.freeL,cond_true,cond_false,nbeq,nble,nblt,decide_true,decide_false,Nat.reduceLT,Nat.reduceBEq,true_and,and_true,List.length_cons,List.length_nil,true_implies,and_self,Bool.and_true,Bool.true_and,Bool.and_self,tids,A.tid,A.tid.go,List.cons_append,frzT,St.frz,A.sub,A.subL,O.sub,subT,subH,frzY,frzZ,Post,aret,evRs,RV.ev,tupA,A.Le,A.LeL,lkp,St.frzs,St.frz,A.ids,A.idsL,cond_true,cond_false,nbeq,nble,decide_true,decide_false,Nat.reduceLeDiff,Nat.reduceBEq,Nat.reduceAdd,beq_self_eq_true,true_and,and_true,true_implies,List.append_nil,List.nil_append,List.getElem?_cons_zero,List.getElem?_cons_succ,List.length_cons,List.length_nil,List.drop_zero,List.take_succ_cons,List.take_zero,and_self],by simp [tids,A.tid,A.tid.go,List.cons_append,frzT,St.frz,A.sub,A.subL,O.sub,subT,subH,frzY,frzZ,Post,aret,evRs,RV.ev,tupA,A.Le,A.LeL,lkp,St.frzs,St.frz,A.ids,A.idsL,cond_true,cond_false,nbeq,nble,decide_true,decide_false,Nat.reduceLeDiff,Nat.reduceBEq,Nat.reduceAdd,beq_self_eq_true,true_and,and_true,true_implies,List.append_nil,List.nil_append,List.getElem?_cons_zero,List.getElem?_cons_succ,List.length_cons,List.length_nil,List.drop_zero,List.take_succ_cons,List.take_zero,and_self,RV.ev,A.LeL,encs],rfl⟩)|(simp;done)|skip
@[reducible] def spR (l : List Term) : O:=.row false 28 4 (encs l)
def Add1Q (l : List Term) (t : Term) (r : A) (hs : List O) : Prop:=r = .osl 0 ∧ hs = [spR (addT l t)]
theorem add1_ct (l : List Term) (t : Term) (hl : l.length ≤ 300) (ht : t.cnt ≤ 8388608) : CtH Tryd.prog 80 [.osl 0,t.v] [spR l] (Add1Q l t):=by
  have hc:=has1_ct l t
  have hk:=copy_ct t ht
  refine ok80.ctH mo Tryd.func80 (by simp) fun βs hok hl' => ?_
  match βs,hl' with
  | [v],_ =>
  unfold ac80
  simp only [pinsL,enumT,List.cons_append,List.nil_append,List.length_cons,List.length_nil]
  have hlen:=encs_length l
  simp only [Term.v_eq] at *
  cases hd : decide (300 ≤ l.length) with
  | true =>
    have d1 : decide ((300 : Int) ≤ l.length) = true:=decide_eq_true (by have:=of_decide_eq_true hd;omega)
    have hn : newB l t = false:=by unfold newB;rw [hd];rfl
    have ha:=addT_no hn
    repeat' first|assumption|first|refine s_opt1 ?_|refine s_opt0 ?_|refine s_optq1 ?_|refine s_optq0 ?_|(refine s_norm ?_;try simp only [wsN,wsI,rmv,rng,X.ev,lkp,peel,cond_true,cond_false,nbeq,Nat.reduceBEq,Nat.reduceSub,Nat.reduceAdd,Nat.zero_add,Nat.sub_zero,Nat.sub_self,List.length_cons,List.length_nil,List.length_append,List.cons_append,List.nil_append,List.append_nil])|(refine s_take fun K hK => ?_)|(refine s_cons (fun K hK => ?_) ?_)|exact s_tnil|refine s_br ?_|refine s_done ?_|refine s_seq fun K hK => ?_|refine s_region ?_|refine s_draw ?_|refine s_tree ?_|refine s_op fun K hK => ?_|refine s_opq fun K hK => ?_|refine s_ops ?_|refine s_endq ?_|simp only [go_sem,Int.reduceToNat,Int.reduceEq,Nat.reduceAdd,Nat.reduceBEq,Nat.reduceLeDiff,Nat.reduceLT,Int.reduceLT,Int.reduceLE,Int.reduceNeg,reduceCtorEq,d1,hlen]|(first|(refine hK _ ?_;clear hK K)|(clear hK K;refine hK _ ?_;clear hK K)|(clear hK K;clear hK K;refine hK _ ?_;clear hK K))|refine And.intro ?_ ?_|refine s_callb hc ?_|refine s_callq hc rfl ?_
    all_goals first|(show PostH _ _ _ _ _ _;exact ⟨[],.osl 0,[spR l],⟨rfl,by rw [ha]⟩,by simp,by simp [StLe,leT,leH,A.Le,A.LeL,O.Le,lkp,freeT,freeH,A.free,A.freeL,cond_true,cond_false,nbeq,nble,nblt,decide_true,decide_false,Nat.reduceLT,Nat.reduceBEq,true_and,and_true,List.length_cons,List.length_nil,true_implies,and_self,Bool.and_true,Bool.true_and,Bool.and_self,St.frzs],by simp [St.frzs,evRs,RV.ev,tupA,A.Le,lkp],rfl⟩)|(simp;done)|skip
  | false =>
    have d1 : decide ((300 : Int) ≤ l.length) = false:=decide_eq_false (by have:=of_decide_eq_false hd;omega)
    cases hh : hasT l t with
    | true =>
      rw [hh] at hc
      have hn : newB l t = false:=by unfold newB;rw [hd,hh];rfl
      have ha:=addT_no hn
      repeat' first|assumption|first|refine s_opt1 ?_|refine s_opt0 ?_|refine s_optq1 ?_|refine s_optq0 ?_|(refine s_norm ?_;try simp only [wsN,wsI,rmv,rng,X.ev,lkp,peel,cond_true,cond_false,nbeq,Nat.reduceBEq,Nat.reduceSub,Nat.reduceAdd,Nat.zero_add,Nat.sub_zero,Nat.sub_self,List.length_cons,List.length_nil,List.length_append,List.cons_append,List.nil_append,List.append_nil])|(refine s_take fun K hK => ?_)|(refine s_cons (fun K hK => ?_) ?_)|exact s_tnil|refine s_br ?_|refine s_done ?_|refine s_seq fun K hK => ?_|refine s_region ?_|refine s_draw ?_|refine s_tree ?_|refine s_op fun K hK => ?_|refine s_opq fun K hK => ?_|refine s_ops ?_|refine s_endq ?_|simp only [go_sem,Int.reduceToNat,Int.reduceEq,Nat.reduceAdd,Nat.reduceBEq,Nat.reduceLeDiff,Nat.reduceLT,Int.reduceLT,Int.reduceLE,Int.reduceNeg,reduceCtorEq,d1,hlen]|(first|(refine hK _ ?_;clear hK K)|(clear hK K;refine hK _ ?_;clear hK K)|(clear hK K;clear hK K;refine hK _ ?_;clear hK K))|refine And.intro ?_ ?_|refine s_callb hc ?_|refine s_callq hc rfl ?_
      all_goals first|(show PostH _ _ _ _ _ _;exact ⟨[],.osl 0,[spR l],⟨rfl,by rw [ha]⟩,by simp,by simp [StLe,leT,leH,A.Le,A.LeL,O.Le,lkp,freeT,freeH,A.free,A.freeL,cond_true,cond_false,nbeq,nble,nblt,decide_true,decide_false,Nat.reduceLT,Nat.reduceBEq,true_and,and_true,List.length_cons,List.length_nil,true_implies,and_self,Bool.and_true,Bool.true_and,Bool.and_self,St.frzs],by simp [St.frzs,evRs,RV.ev,tupA,A.Le,lkp],rfl⟩)|(simp;done)|skip
    | false =>
      rw [hh] at hc
      have hn : newB l t = true:=by unfold newB;rw [hd,hh];rfl
      have ha:=addT_new hn
      have hlt:=(newB_lt hn).1
      have hz:=enc_one l t
      repeat' first|assumption|first|refine s_opt1 ?_|refine s_opt0 ?_|refine s_optq1 ?_|refine s_optq0 ?_|(refine s_norm ?_;try simp only [wsN,wsI,rmv,rng,X.ev,lkp,peel,cond_true,cond_false,nbeq,Nat.reduceBEq,Nat.reduceSub,Nat.reduceAdd,Nat.zero_add,Nat.sub_zero,Nat.sub_self,List.length_cons,List.length_nil,List.length_append,List.cons_append,List.nil_append,List.append_nil])|(refine s_take fun K hK => ?_)|(refine s_cons (fun K hK => ?_) ?_)|exact s_tnil|refine s_br ?_|refine s_done ?_|refine s_seq fun K hK => ?_|refine s_region ?_|refine s_draw ?_|refine s_tree ?_|refine s_op fun K hK => ?_|refine s_opq fun K hK => ?_|refine s_ops ?_|refine s_endq ?_|simp only [go_sem,Int.reduceToNat,Int.reduceEq,Nat.reduceAdd,Nat.reduceBEq,Nat.reduceLeDiff,Nat.reduceLT,Int.reduceLT,Int.reduceLE,Int.reduceNeg,reduceCtorEq,d1,hlen,hz]|(first|(refine hK _ ?_;clear hK K)|(clear hK K;refine hK _ ?_;clear hK K)|(clear hK K;clear hK K;refine hK _ ?_;clear hK K))|refine And.intro ?_ ?_|refine s_callb hc ?_|refine s_callq hc rfl ?_|refine s_call hk ?_
      all_goals first|(show PostH _ _ _ _ _ _;exact ⟨[],.osl 0,[spR (l ++ [t])],⟨rfl,by rw [ha]⟩,by simp,by simp [StLe,leT,leH,A.Le,A.LeL,O.Le,lkp,freeT,freeH,A.free,A.freeL,cond_true,cond_false,nbeq,nble,nblt,decide_true,decide_false,Nat.reduceLT,Nat.reduceBEq,true_and,and_true,List.length_cons,List.length_nil,true_implies,and_self,Bool.and_true,Bool.true_and,Bool.and_self,St.frzs],by simp [St.frzs,evRs,RV.ev,tupA,A.Le,lkp],rfl⟩)|(simp;done)|omega|skip
end Go.Proofs.YtlddcimpdkcgeaaDoor
