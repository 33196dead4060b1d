/- Terms that are made for a draw: their kids' slice is the maker's own. -/
import Derived.Test.YtlddcimpdkcgeaaGreatDoorG2
set_option linter.unusedVariables false
set_option linter.unusedSimpArgs false
set_option maxRecDepth 20000
set_option maxHeartbeats 8000000
namespace Go.Proofs.YtlddcimpdkcgeaaGreatDoor
open List (length_cons length_nil cons_append nil_append append_nil length_append)
open Nat (reduceLeDiff reduceAdd reduceLT reduceSub sub_self zero_add sub_zero)
open Int (reduceToNat reduceNeg reduceEq reduceLE)
open Go Go.RowKit Sym
attribute [local irreducible] awp aops aopsQ gop gopQ gopO gopOQ gopV gopT awpN awpT awpTs ACall after
@[reducible] def rowV (t : Term) (k : Nat) : A:=.agg [.d false (.int .i64 t.op),.d false (.int .i64 t.n),.d false (.str t.s),.osl k]
@[reducible] def rowO (t : Term) : O:=.row false 28 4 (encs t.kids)
def RowQ (t : Term) (r : A) (hs : List O) : Prop:=r = rowV t 0 ∧ hs = [rowO t]
def RowBQ (t : Term) (r : A) (hs : List O) : Prop:=r = .tup [rowV t 0,.d true (.bool true)] ∧ hs = [rowO t]
theorem ok3R (t : Term) (ho : okT t = true) : CtH Tryz.prog 67 [rowV t 0] [rowO t] (RowQ t):=by
  have hc:=termOk1_ct t
  rw [ho] at hc
  simp only [Term.v_eq] at hc
  refine ok67.ctS mo Tryz.func67 (by simp) fun βs hok hl => ?_
  match βs,hl with
  | [v],_ =>
  unfold ac67
  simp only [pinsL,enumT,cons_append,nil_append,length_cons,length_nil]
  repeat' first|assumption|first|refine s_opt1 ?_|refine s_opt0 ?_|refine s_optq1 ?_|refine s_optq0 ?_|(refine s_norm ?_;try simp only [wsN,wsI,rmv,rng,X.ev,lkp,peel,cond_true,cond_false,nbeq,Nat.reduceBEq,reduceSub,reduceAdd,zero_add,sub_zero,sub_self,length_cons,length_nil,length_append,cons_append,nil_append,append_nil])|(refine s_take fun K hK => ?_)|(refine s_cons (fun K hK => ?_) ?_)|exact s_tnil|refine s_br ?_|refine s_done ?_|refine s_seq fun K hK => ?_|refine s_region ?_|refine s_draw ?_|refine s_tree ?_|refine s_op fun K hK => ?_|refine s_opq fun K hK => ?_|refine s_ops ?_|refine s_endq ?_|simp only [go_sem,reduceToNat,reduceEq,reduceAdd,Nat.reduceBEq,reduceLeDiff,reduceLT,Int.reduceLT,reduceLE,reduceNeg,reduceCtorEq]|(first|(refine hK _ ?_;clear hK K)|(clear hK K;refine hK _ ?_;clear hK K)|(clear hK K;clear hK K;refine hK _ ?_;clear hK K))|refine And.intro ?_ ?_|refine s_callb hc ?_
  all_goals first|(show PostS _ _ _ _ _ _;exact ⟨[],[0],rowV t 0,⟨[],[rowO t]⟩,[rowO t],⟨rfl,rfl⟩,by simp,by simp [StLe,leT,leH,A.Le,A.LeL,O.Le,lkp,freeT,freeH,A.free,A.freeL,cond_true,cond_false,nbeq,nble,nblt,decide_true,decide_false,reduceLT,Nat.reduceBEq,true_and,and_true,length_cons,length_nil,true_implies,and_self,Bool.and_true,Bool.true_and,Bool.and_self,St.frzs],by simp [leT],(fun k h => by have h0 : k = 0:=(by simp at h;exact h);subst h0;rfl),by decide,rfl,by simp [St.frzs,evRs,RV.ev,tupA,A.Le,A.LeL,lkp,nble],rfl⟩)|(simp;done)
theorem two3R (op : Int) (a b : Term) (ha : a.cnt ≤ 4194000) (hb : b.cnt ≤ 4194000) (ho : okT (.mk op 0 ⟨#[]⟩ [a,b]) = true) : CtH Tryz.prog 79 [.d false (.int .i64 op),a.v,b.v] [] (RowQ (.mk op 0 ⟨#[]⟩ [a,b])):=by
  have ca:=copy_ct a (by omega)
  have cb:=copy_ct b (by omega)
  have c:=ok3R (.mk op 0 ⟨#[]⟩ [a,b]) ho
  refine ok79.ctS mo Tryz.func79 (by simp) fun βs hok hl => ?_
  match βs,hl with
  | [],_ =>
  unfold ac79
  simp only [pinsL,enumT,cons_append,nil_append,length_cons,length_nil]
  simp only [rowV,rowO,Term.v_eq,op_mk,n_mk,s_mk,kids_mk,encs,Term.enc_eq] at *
  repeat' first|assumption|first|refine s_opt1 ?_|refine s_opt0 ?_|refine s_optq1 ?_|refine s_optq0 ?_|(refine s_norm ?_;try simp only [wsN,wsI,rmv,rng,X.ev,lkp,peel,cond_true,cond_false,nbeq,Nat.reduceBEq,reduceSub,reduceAdd,zero_add,sub_zero,sub_self,length_cons,length_nil,length_append,cons_append,nil_append,append_nil])|(refine s_take fun K hK => ?_)|(refine s_cons (fun K hK => ?_) ?_)|exact s_tnil|refine s_br ?_|refine s_done ?_|refine s_seq fun K hK => ?_|refine s_region ?_|refine s_draw ?_|refine s_tree ?_|refine s_op fun K hK => ?_|refine s_opq fun K hK => ?_|refine s_ops ?_|refine s_endq ?_|simp only [go_sem,reduceToNat,reduceEq,reduceAdd,Nat.reduceBEq,reduceLeDiff,reduceLT,Int.reduceLT,reduceLE,reduceNeg,reduceCtorEq]|(first|(refine hK _ ?_;clear hK K)|(clear hK K;refine hK _ ?_;clear hK K)|(clear hK K;clear hK K;refine hK _ ?_;clear hK K))|refine And.intro ?_ ?_|refine s_call ca ?_|refine s_call cb ?_|refine s_callh [] [3] c rfl rfl (by first|trivial|exact ⟨rfl,trivial⟩) (by decide) rfl (by first|exact ⟨rfl,trivial⟩|simp [allK,mkB,inL]) ?_
  all_goals first|(show ∀ _ _,_ → _;skip)|(simp;done)
  rintro r hs ⟨rfl,rfl⟩
  repeat' first|assumption|first|refine s_opt1 ?_|refine s_opt0 ?_|refine s_optq1 ?_|refine s_optq0 ?_|(refine s_norm ?_;try simp only [wsN,wsI,rmv,rng,X.ev,lkp,peel,cond_true,cond_false,nbeq,Nat.reduceBEq,reduceSub,reduceAdd,zero_add,sub_zero,sub_self,length_cons,length_nil,length_append,cons_append,nil_append,append_nil])|(refine s_take fun K hK => ?_)|(refine s_cons (fun K hK => ?_) ?_)|exact s_tnil|refine s_br ?_|refine s_done ?_|refine s_seq fun K hK => ?_|refine s_region ?_|refine s_draw ?_|refine s_tree ?_|refine s_op fun K hK => ?_|refine s_opq fun K hK => ?_|refine s_ops ?_|refine s_endq ?_|simp only [go_sem,reduceToNat,reduceEq,reduceAdd,Nat.reduceBEq,reduceLeDiff,reduceLT,Int.reduceLT,reduceLE,reduceNeg,reduceCtorEq]|(first|(refine hK _ ?_;clear hK K)|(clear hK K;refine hK _ ?_;clear hK K)|(clear hK K;clear hK K;refine hK _ ?_;clear hK K))|refine And.intro ?_ ?_
  all_goals first|(show PostS _ _ _ _ _ _;exact ⟨[],[3],rowV (.mk op 0 ⟨#[]⟩ [a,b]) 3,⟨[],[.dead,.dead,.dead,rowO (.mk op 0 ⟨#[]⟩ [a,b])]⟩,[rowO (.mk op 0 ⟨#[]⟩ [a,b])],⟨rfl,rfl⟩,by simp,by simp [StLe,leT,leH,A.Le,A.LeL,O.Le,lkp,freeT,freeH,A.free,A.freeL,cond_true,cond_false,nbeq,nble,nblt,decide_true,decide_false,reduceLT,Nat.reduceBEq,true_and,and_true,length_cons,length_nil,true_implies,and_self,Bool.and_true,Bool.true_and,Bool.and_self,St.frzs,encs,Term.enc_eq,kids_mk],by simp [leT,lkp,A.Le],(fun k h => absurd h (Nat.not_lt_zero k)),by decide,rfl,by simp [St.frzs,evRs,RV.ev,tupA,A.Le,A.LeL,lkp,op_mk,n_mk,s_mk,kids_mk,encs,Term.enc_eq,nble,nbeq],rfl⟩)|(simp;done)
theorem pubR (a : Term) (ha : a.cnt ≤ 4194000) (ho : okT (.mk 4 0 ⟨#[]⟩ [a]) = true) : CtH Tryz.prog 34 [a.v] [] (RowQ (.mk 4 0 ⟨#[]⟩ [a])):=by
  have ca:=copy_ct a (by omega)
  have c:=ok3R (.mk 4 0 ⟨#[]⟩ [a]) ho
  refine ok34.ctS mo Tryz.func34 (by simp) fun βs hok hl => ?_
  match βs,hl with
  | [],_ =>
  unfold ac34
  simp only [pinsL,enumT,cons_append,nil_append,length_cons,length_nil]
  simp only [rowV,rowO,Term.v_eq,op_mk,n_mk,s_mk,kids_mk,encs,Term.enc_eq] at *
  repeat' first|assumption|first|refine s_opt1 ?_|refine s_opt0 ?_|refine s_optq1 ?_|refine s_optq0 ?_|(refine s_norm ?_;try simp only [wsN,wsI,rmv,rng,X.ev,lkp,peel,cond_true,cond_false,nbeq,Nat.reduceBEq,reduceSub,reduceAdd,zero_add,sub_zero,sub_self,length_cons,length_nil,length_append,cons_append,nil_append,append_nil])|(refine s_take fun K hK => ?_)|(refine s_cons (fun K hK => ?_) ?_)|exact s_tnil|refine s_br ?_|refine s_done ?_|refine s_seq fun K hK => ?_|refine s_region ?_|refine s_draw ?_|refine s_tree ?_|refine s_op fun K hK => ?_|refine s_opq fun K hK => ?_|refine s_ops ?_|refine s_endq ?_|simp only [go_sem,reduceToNat,reduceEq,reduceAdd,Nat.reduceBEq,reduceLeDiff,reduceLT,Int.reduceLT,reduceLE,reduceNeg,reduceCtorEq]|(first|(refine hK _ ?_;clear hK K)|(clear hK K;refine hK _ ?_;clear hK K)|(clear hK K;clear hK K;refine hK _ ?_;clear hK K))|refine And.intro ?_ ?_|refine s_call ca ?_|refine s_callh [] [2] c rfl rfl (by first|trivial|exact ⟨rfl,trivial⟩) (by decide) rfl (by first|exact ⟨rfl,trivial⟩|simp [allK,mkB,inL]) ?_
  all_goals first|(show ∀ _ _,_ → _;skip)|(simp;done)
  rintro r hs ⟨rfl,rfl⟩
  repeat' first|assumption|first|refine s_opt1 ?_|refine s_opt0 ?_|refine s_optq1 ?_|refine s_optq0 ?_|(refine s_norm ?_;try simp only [wsN,wsI,rmv,rng,X.ev,lkp,peel,cond_true,cond_false,nbeq,Nat.reduceBEq,reduceSub,reduceAdd,zero_add,sub_zero,sub_self,length_cons,length_nil,length_append,cons_append,nil_append,append_nil])|(refine s_take fun K hK => ?_)|(refine s_cons (fun K hK => ?_) ?_)|exact s_tnil|refine s_br ?_|refine s_done ?_|refine s_seq fun K hK => ?_|refine s_region ?_|refine s_draw ?_|refine s_tree ?_|refine s_op fun K hK => ?_|refine s_opq fun K hK => ?_|refine s_ops ?_|refine s_endq ?_|simp only [go_sem,reduceToNat,reduceEq,reduceAdd,Nat.reduceBEq,reduceLeDiff,reduceLT,Int.reduceLT,reduceLE,reduceNeg,reduceCtorEq]|(first|(refine hK _ ?_;clear hK K)|(clear hK K;refine hK _ ?_;clear hK K)|(clear hK K;clear hK K;refine hK _ ?_;clear hK K))|refine And.intro ?_ ?_
  all_goals first|(show PostS _ _ _ _ _ _;exact ⟨[],[2],rowV (.mk 4 0 ⟨#[]⟩ [a]) 2,⟨[],[.dead,.dead,rowO (.mk 4 0 ⟨#[]⟩ [a])]⟩,[rowO (.mk 4 0 ⟨#[]⟩ [a])],⟨rfl,rfl⟩,by simp,by simp [StLe,leT,leH,A.Le,A.LeL,O.Le,lkp,freeT,freeH,A.free,A.freeL,cond_true,cond_false,nbeq,nble,nblt,decide_true,decide_false,reduceLT,Nat.reduceBEq,true_and,and_true,length_cons,length_nil,true_implies,and_self,Bool.and_true,Bool.true_and,Bool.and_self,St.frzs,encs,Term.enc_eq,kids_mk],by simp [leT,lkp,A.Le],(fun k h => absurd h (Nat.not_lt_zero k)),by decide,rfl,by simp [St.frzs,evRs,RV.ev,tupA,A.Le,A.LeL,lkp,op_mk,n_mk,s_mk,kids_mk,encs,Term.enc_eq,nble,nbeq],rfl⟩)|(simp;done)
theorem hashR (a : Term) (ha : a.cnt ≤ 4194000) (ho : okT (.mk 6 0 ⟨#[]⟩ [a]) = true) : CtH Tryz.prog 93 [a.v] [] (RowQ (.mk 6 0 ⟨#[]⟩ [a])):=by
  have ca:=copy_ct a (by omega)
  have c:=ok3R (.mk 6 0 ⟨#[]⟩ [a]) ho
  refine ok93.ctS mo Tryz.func93 (by simp) fun βs hok hl => ?_
  match βs,hl with
  | [],_ =>
  unfold ac93
  simp only [pinsL,enumT,cons_append,nil_append,length_cons,length_nil]
  simp only [rowV,rowO,Term.v_eq,op_mk,n_mk,s_mk,kids_mk,encs,Term.enc_eq] at *
  repeat' first|assumption|first|refine s_opt1 ?_|refine s_opt0 ?_|refine s_optq1 ?_|refine s_optq0 ?_|(refine s_norm ?_;try simp only [wsN,wsI,rmv,rng,X.ev,lkp,peel,cond_true,cond_false,nbeq,Nat.reduceBEq,reduceSub,reduceAdd,zero_add,sub_zero,sub_self,length_cons,length_nil,length_append,cons_append,nil_append,append_nil])|(refine s_take fun K hK => ?_)|(refine s_cons (fun K hK => ?_) ?_)|exact s_tnil|refine s_br ?_|refine s_done ?_|refine s_seq fun K hK => ?_|refine s_region ?_|refine s_draw ?_|refine s_tree ?_|refine s_op fun K hK => ?_|refine s_opq fun K hK => ?_|refine s_ops ?_|refine s_endq ?_|simp only [go_sem,reduceToNat,reduceEq,reduceAdd,Nat.reduceBEq,reduceLeDiff,reduceLT,Int.reduceLT,reduceLE,reduceNeg,reduceCtorEq]|(first|(refine hK _ ?_;clear hK K)|(clear hK K;refine hK _ ?_;clear hK K)|(clear hK K;clear hK K;refine hK _ ?_;clear hK K))|refine And.intro ?_ ?_|refine s_call ca ?_|refine s_callh [] [2] c rfl rfl (by first|trivial|exact ⟨rfl,trivial⟩) (by decide) rfl (by first|exact ⟨rfl,trivial⟩|simp [allK,mkB,inL]) ?_
  all_goals first|(show ∀ _ _,_ → _;skip)|(simp;done)
  rintro r hs ⟨rfl,rfl⟩
  repeat' first|assumption|first|refine s_opt1 ?_|refine s_opt0 ?_|refine s_optq1 ?_|refine s_optq0 ?_|(refine s_norm ?_;try simp only [wsN,wsI,rmv,rng,X.ev,lkp,peel,cond_true,cond_false,nbeq,Nat.reduceBEq,reduceSub,reduceAdd,zero_add,sub_zero,sub_self,length_cons,length_nil,length_append,cons_append,nil_append,append_nil])|(refine s_take fun K hK => ?_)|(refine s_cons (fun K hK => ?_) ?_)|exact s_tnil|refine s_br ?_|refine s_done ?_|refine s_seq fun K hK => ?_|refine s_region ?_|refine s_draw ?_|refine s_tree ?_|refine s_op fun K hK => ?_|refine s_opq fun K hK => ?_|refine s_ops ?_|refine s_endq ?_|simp only [go_sem,reduceToNat,reduceEq,reduceAdd,Nat.reduceBEq,reduceLeDiff,reduceLT,Int.reduceLT,reduceLE,reduceNeg,reduceCtorEq]|(first|(refine hK _ ?_;clear hK K)|(clear hK K;refine hK _ ?_;clear hK K)|(clear hK K;clear hK K;refine hK _ ?_;clear hK K))|refine And.intro ?_ ?_
  all_goals first|(show PostS _ _ _ _ _ _;exact ⟨[],[2],rowV (.mk 6 0 ⟨#[]⟩ [a]) 2,⟨[],[.dead,.dead,rowO (.mk 6 0 ⟨#[]⟩ [a])]⟩,[rowO (.mk 6 0 ⟨#[]⟩ [a])],⟨rfl,rfl⟩,by simp,by simp [StLe,leT,leH,A.Le,A.LeL,O.Le,lkp,freeT,freeH,A.free,A.freeL,cond_true,cond_false,nbeq,nble,nblt,decide_true,decide_false,reduceLT,Nat.reduceBEq,true_and,and_true,length_cons,length_nil,true_implies,and_self,Bool.and_true,Bool.true_and,Bool.and_self,St.frzs,encs,Term.enc_eq,kids_mk],by simp [leT,lkp,A.Le],(fun k h => absurd h (Nat.not_lt_zero k)),by decide,rfl,by simp [St.frzs,evRs,RV.ev,tupA,A.Le,A.LeL,lkp,op_mk,n_mk,s_mk,kids_mk,encs,Term.enc_eq,nble,nbeq],rfl⟩)|(simp;done)
theorem pairR (a b : Term) (ha : a.cnt ≤ 4194000) (hb : b.cnt ≤ 4194000) (ho : okT (.mk 3 0 ⟨#[]⟩ [a,b]) = true) : CtH Tryz.prog 56 [a.v,b.v] [] (RowQ (.mk 3 0 ⟨#[]⟩ [a,b])):=by
  have c:=two3R 3 a b ha hb ho
  refine ok56.ctS mo Tryz.func56 (by simp) fun βs hok hl => ?_
  match βs,hl with
  | [],_ =>
  unfold ac56
  simp only [pinsL,enumT,cons_append,nil_append,length_cons,length_nil]
  simp only [Term.v_eq] at *
  repeat' first|assumption|first|refine s_opt1 ?_|refine s_opt0 ?_|refine s_optq1 ?_|refine s_optq0 ?_|(refine s_norm ?_;try simp only [wsN,wsI,rmv,rng,X.ev,lkp,peel,cond_true,cond_false,nbeq,Nat.reduceBEq,reduceSub,reduceAdd,zero_add,sub_zero,sub_self,length_cons,length_nil,length_append,cons_append,nil_append,append_nil])|(refine s_take fun K hK => ?_)|(refine s_cons (fun K hK => ?_) ?_)|exact s_tnil|refine s_br ?_|refine s_done ?_|refine s_seq fun K hK => ?_|refine s_region ?_|refine s_draw ?_|refine s_tree ?_|refine s_op fun K hK => ?_|refine s_opq fun K hK => ?_|refine s_ops ?_|refine s_endq ?_|simp only [go_sem,reduceToNat,reduceEq,reduceAdd,Nat.reduceBEq,reduceLeDiff,reduceLT,Int.reduceLT,reduceLE,reduceNeg,reduceCtorEq]|(first|(refine hK _ ?_;clear hK K)|(clear hK K;refine hK _ ?_;clear hK K)|(clear hK K;clear hK K;refine hK _ ?_;clear hK K))|refine And.intro ?_ ?_|refine s_callh [] [] c rfl rfl (by first|trivial|exact ⟨rfl,trivial⟩) (by decide) rfl trivial ?_
  all_goals first|(show ∀ _ _,_ → _;skip)|(simp;done)
  rintro r hs ⟨rfl,rfl⟩
  repeat' first|assumption|first|refine s_opt1 ?_|refine s_opt0 ?_|refine s_optq1 ?_|refine s_optq0 ?_|(refine s_norm ?_;try simp only [wsN,wsI,rmv,rng,X.ev,lkp,peel,cond_true,cond_false,nbeq,Nat.reduceBEq,reduceSub,reduceAdd,zero_add,sub_zero,sub_self,length_cons,length_nil,length_append,cons_append,nil_append,append_nil])|(refine s_take fun K hK => ?_)|(refine s_cons (fun K hK => ?_) ?_)|exact s_tnil|refine s_br ?_|refine s_done ?_|refine s_seq fun K hK => ?_|refine s_region ?_|refine s_draw ?_|refine s_tree ?_|refine s_op fun K hK => ?_|refine s_opq fun K hK => ?_|refine s_ops ?_|refine s_endq ?_|simp only [go_sem,reduceToNat,reduceEq,reduceAdd,Nat.reduceBEq,reduceLeDiff,reduceLT,Int.reduceLT,reduceLE,reduceNeg,reduceCtorEq]|(first|(refine hK _ ?_;clear hK K)|(clear hK K;refine hK _ ?_;clear hK K)|(clear hK K;clear hK K;refine hK _ ?_;clear hK K))|refine And.intro ?_ ?_
  all_goals first|(show PostS _ _ _ _ _ _;exact ⟨[],[3],rowV (.mk 3 0 ⟨#[]⟩ [a,b]) 3,⟨[],[.dead,.dead,.dead,rowO (.mk 3 0 ⟨#[]⟩ [a,b])]⟩,[rowO (.mk 3 0 ⟨#[]⟩ [a,b])],⟨rfl,rfl⟩,by simp,by simp [StLe,leT,leH,A.Le,A.LeL,O.Le,lkp,freeT,freeH,A.free,A.freeL,cond_true,cond_false,nbeq,nble,nblt,decide_true,decide_false,reduceLT,Nat.reduceBEq,true_and,and_true,length_cons,length_nil,true_implies,and_self,Bool.and_true,Bool.true_and,Bool.and_self,St.frzs,encs,Term.enc_eq,kids_mk],by simp [leT,lkp,A.Le],(fun k h => absurd h (Nat.not_lt_zero k)),by decide,rfl,by simp [St.frzs,evRs,RV.ev,tupA,A.Le,A.LeL,lkp,op_mk,n_mk,s_mk,kids_mk,encs,Term.enc_eq,nble,nbeq],rfl⟩)|(simp;done)
theorem signR (a b : Term) (ha : a.cnt ≤ 4194000) (hb : b.cnt ≤ 4194000) (ho : okT (.mk 8 0 ⟨#[]⟩ [a,b]) = true) : CtH Tryz.prog 55 [a.v,b.v] [] (RowQ (.mk 8 0 ⟨#[]⟩ [a,b])):=by
  have c:=two3R 8 a b ha hb ho
  refine ok55.ctS mo Tryz.func55 (by simp) fun βs hok hl => ?_
  match βs,hl with
  | [],_ =>
  unfold ac55
  simp only [pinsL,enumT,cons_append,nil_append,length_cons,length_nil]
  simp only [Term.v_eq] at *
  repeat' first|assumption|first|refine s_opt1 ?_|refine s_opt0 ?_|refine s_optq1 ?_|refine s_optq0 ?_|(refine s_norm ?_;try simp only [wsN,wsI,rmv,rng,X.ev,lkp,peel,cond_true,cond_false,nbeq,Nat.reduceBEq,reduceSub,reduceAdd,zero_add,sub_zero,sub_self,length_cons,length_nil,length_append,cons_append,nil_append,append_nil])|(refine s_take fun K hK => ?_)|(refine s_cons (fun K hK => ?_) ?_)|exact s_tnil|refine s_br ?_|refine s_done ?_|refine s_seq fun K hK => ?_|refine s_region ?_|refine s_draw ?_|refine s_tree ?_|refine s_op fun K hK => ?_|refine s_opq fun K hK => ?_|refine s_ops ?_|refine s_endq ?_|simp only [go_sem,reduceToNat,reduceEq,reduceAdd,Nat.reduceBEq,reduceLeDiff,reduceLT,Int.reduceLT,reduceLE,reduceNeg,reduceCtorEq]|(first|(refine hK _ ?_;clear hK K)|(clear hK K;refine hK _ ?_;clear hK K)|(clear hK K;clear hK K;refine hK _ ?_;clear hK K))|refine And.intro ?_ ?_|refine s_callh [] [] c rfl rfl (by first|trivial|exact ⟨rfl,trivial⟩) (by decide) rfl trivial ?_
  all_goals first|(show ∀ _ _,_ → _;skip)|(simp;done)
  rintro r hs ⟨rfl,rfl⟩
  repeat' first|assumption|first|refine s_opt1 ?_|refine s_opt0 ?_|refine s_optq1 ?_|refine s_optq0 ?_|(refine s_norm ?_;try simp only [wsN,wsI,rmv,rng,X.ev,lkp,peel,cond_true,cond_false,nbeq,Nat.reduceBEq,reduceSub,reduceAdd,zero_add,sub_zero,sub_self,length_cons,length_nil,length_append,cons_append,nil_append,append_nil])|(refine s_take fun K hK => ?_)|(refine s_cons (fun K hK => ?_) ?_)|exact s_tnil|refine s_br ?_|refine s_done ?_|refine s_seq fun K hK => ?_|refine s_region ?_|refine s_draw ?_|refine s_tree ?_|refine s_op fun K hK => ?_|refine s_opq fun K hK => ?_|refine s_ops ?_|refine s_endq ?_|simp only [go_sem,reduceToNat,reduceEq,reduceAdd,Nat.reduceBEq,reduceLeDiff,reduceLT,Int.reduceLT,reduceLE,reduceNeg,reduceCtorEq]|(first|(refine hK _ ?_;clear hK K)|(clear hK K;refine hK _ ?_;clear hK K)|(clear hK K;clear hK K;refine hK _ ?_;clear hK K))|refine And.intro ?_ ?_
  all_goals first|(show PostS _ _ _ _ _ _;exact ⟨[],[3],rowV (.mk 8 0 ⟨#[]⟩ [a,b]) 3,⟨[],[.dead,.dead,.dead,rowO (.mk 8 0 ⟨#[]⟩ [a,b])]⟩,[rowO (.mk 8 0 ⟨#[]⟩ [a,b])],⟨rfl,rfl⟩,by simp,by simp [StLe,leT,leH,A.Le,A.LeL,O.Le,lkp,freeT,freeH,A.free,A.freeL,cond_true,cond_false,nbeq,nble,nblt,decide_true,decide_false,reduceLT,Nat.reduceBEq,true_and,and_true,length_cons,length_nil,true_implies,and_self,Bool.and_true,Bool.true_and,Bool.and_self,St.frzs,encs,Term.enc_eq,kids_mk],by simp [leT,lkp,A.Le],(fun k h => absurd h (Nat.not_lt_zero k)),by decide,rfl,by simp [St.frzs,evRs,RV.ev,tupA,A.Le,A.LeL,lkp,op_mk,n_mk,s_mk,kids_mk,encs,Term.enc_eq,nble,nbeq],rfl⟩)|(simp;done)
theorem sealR (a b : Term) (n : Int) (g p : Term) (ha : a.cnt ≤ 2097152) (hb : b.cnt ≤ 2097152) (hp : pairT (numT n) b = p) (hg : g = .mk 7 0 ⟨#[]⟩ [a,p]) (ho : okT g = true) : CtH Tryz.prog 95 [a.v,.d false (.int .i64 n),b.v] [] (RowQ g):=by
  have hn:=numT_cnt n
  have hpc:=pairT_cnt (numT n) b
  have h0:=num1_ct n
  have h1:=pair1_ct (numT n) b (by omega) (by omega)
  change Ct _ _ _ (pairT (numT n) b).v at h1
  rw [hp] at h1 hpc
  subst hg
  have c:=two3R 7 a p (by omega) (by omega) ho
  clear hp
  generalize numT n = d at *
  refine ok95.ctS mo Tryz.func95 (by simp) fun βs hok hl => ?_
  match βs,hl with
  | [],_ =>
  unfold ac95
  simp only [pinsL,enumT,cons_append,nil_append,length_cons,length_nil]
  simp only [Term.v_eq] at *
  repeat' first|assumption|first|refine s_opt1 ?_|refine s_opt0 ?_|refine s_optq1 ?_|refine s_optq0 ?_|(refine s_norm ?_;try simp only [wsN,wsI,rmv,rng,X.ev,lkp,peel,cond_true,cond_false,nbeq,Nat.reduceBEq,reduceSub,reduceAdd,zero_add,sub_zero,sub_self,length_cons,length_nil,length_append,cons_append,nil_append,append_nil])|(refine s_take fun K hK => ?_)|(refine s_cons (fun K hK => ?_) ?_)|exact s_tnil|refine s_br ?_|refine s_done ?_|refine s_seq fun K hK => ?_|refine s_region ?_|refine s_draw ?_|refine s_tree ?_|refine s_op fun K hK => ?_|refine s_opq fun K hK => ?_|refine s_ops ?_|refine s_endq ?_|simp only [go_sem,reduceToNat,reduceEq,reduceAdd,Nat.reduceBEq,reduceLeDiff,reduceLT,Int.reduceLT,reduceLE,reduceNeg,reduceCtorEq]|(first|(refine hK _ ?_;clear hK K)|(clear hK K;refine hK _ ?_;clear hK K)|(clear hK K;clear hK K;refine hK _ ?_;clear hK K))|refine And.intro ?_ ?_|refine s_call h0 ?_|refine s_call h1 ?_|refine s_callh [] [] c rfl rfl (by first|trivial|exact ⟨rfl,trivial⟩) (by decide) rfl trivial ?_
  all_goals first|(show ∀ _ _,_ → _;skip)|(simp;done)
  rintro r hs ⟨rfl,rfl⟩
  repeat' first|assumption|first|refine s_opt1 ?_|refine s_opt0 ?_|refine s_optq1 ?_|refine s_optq0 ?_|(refine s_norm ?_;try simp only [wsN,wsI,rmv,rng,X.ev,lkp,peel,cond_true,cond_false,nbeq,Nat.reduceBEq,reduceSub,reduceAdd,zero_add,sub_zero,sub_self,length_cons,length_nil,length_append,cons_append,nil_append,append_nil])|(refine s_take fun K hK => ?_)|(refine s_cons (fun K hK => ?_) ?_)|exact s_tnil|refine s_br ?_|refine s_done ?_|refine s_seq fun K hK => ?_|refine s_region ?_|refine s_draw ?_|refine s_tree ?_|refine s_op fun K hK => ?_|refine s_opq fun K hK => ?_|refine s_ops ?_|refine s_endq ?_|simp only [go_sem,reduceToNat,reduceEq,reduceAdd,Nat.reduceBEq,reduceLeDiff,reduceLT,Int.reduceLT,reduceLE,reduceNeg,reduceCtorEq]|(first|(refine hK _ ?_;clear hK K)|(clear hK K;refine hK _ ?_;clear hK K)|(clear hK K;clear hK K;refine hK _ ?_;clear hK K))|refine And.intro ?_ ?_
  all_goals first|(show PostS _ _ _ _ _ _;exact ⟨[],[3],rowV (.mk 7 0 ⟨#[]⟩ [a,p]) 3,⟨[],[.dead,.dead,.dead,rowO (.mk 7 0 ⟨#[]⟩ [a,p])]⟩,[rowO (.mk 7 0 ⟨#[]⟩ [a,p])],⟨rfl,rfl⟩,by simp,by simp [StLe,leT,leH,A.Le,A.LeL,O.Le,lkp,freeT,freeH,A.free,A.freeL,cond_true,cond_false,nbeq,nble,nblt,decide_true,decide_false,reduceLT,Nat.reduceBEq,true_and,and_true,length_cons,length_nil,true_implies,and_self,Bool.and_true,Bool.true_and,Bool.and_self,St.frzs,encs,Term.enc_eq,kids_mk],by simp [leT,lkp,A.Le],(fun k h => absurd h (Nat.not_lt_zero k)),by decide,rfl,by simp [St.frzs,evRs,RV.ev,tupA,A.Le,A.LeL,lkp,op_mk,n_mk,s_mk,kids_mk,encs,Term.enc_eq,nble,nbeq],rfl⟩)|(simp;done)
theorem agreeR (a c : Term) (ha : a.cnt ≤ 2097152) (hc : c.cnt ≤ 2097152) (hp : okT (.mk 4 0 ⟨#[]⟩ [c]) = true) (ho : okT (shareT a c) = true) : CtH Tryz.prog 94 [a.v,(Term.mk 4 0 ⟨#[]⟩ [c]).v] [] (RowBQ (shareT a c)):=by
  have h1:=termOk1_ct (.mk 4 0 ⟨#[]⟩ [c])
  rw [hp] at h1
  have hq:=bef1_ct c a
  refine ok94.ctS mo Tryz.func94 (by simp) fun βs hok hl => ?_
  match βs,hl with
  | [],_ =>
  unfold ac94
  simp only [pinsL,enumT,cons_append,nil_append,length_cons,length_nil]
  cases he : befT c a with
  | true =>
    rw [he] at hq
    have hs : shareT a c = .mk 5 0 ⟨#[]⟩ [c,a]:=by unfold shareT;rw [he];rfl
    rw [hs] at ho ⊢
    have c2:=two3R 5 c a (by omega) (by omega) ho
    simp only [Term.v_eq,op_mk,n_mk,s_mk,kids_mk,encs,Term.enc_eq] at *
    repeat' first|assumption|first|refine s_opt1 ?_|refine s_opt0 ?_|refine s_optq1 ?_|refine s_optq0 ?_|(refine s_norm ?_;try simp only [wsN,wsI,rmv,rng,X.ev,lkp,peel,cond_true,cond_false,nbeq,Nat.reduceBEq,reduceSub,reduceAdd,zero_add,sub_zero,sub_self,length_cons,length_nil,length_append,cons_append,nil_append,append_nil])|(refine s_take fun K hK => ?_)|(refine s_cons (fun K hK => ?_) ?_)|exact s_tnil|refine s_br ?_|refine s_done ?_|refine s_seq fun K hK => ?_|refine s_region ?_|refine s_draw ?_|refine s_tree ?_|refine s_op fun K hK => ?_|refine s_opq fun K hK => ?_|refine s_ops ?_|refine s_endq ?_|simp only [go_sem,reduceToNat,reduceEq,reduceAdd,Nat.reduceBEq,reduceLeDiff,reduceLT,Int.reduceLT,reduceLE,reduceNeg,reduceCtorEq,encs,Term.enc_eq,List.getD_cons_zero]|(first|(refine hK _ ?_;clear hK K)|(clear hK K;refine hK _ ?_;clear hK K)|(clear hK K;clear hK K;refine hK _ ?_;clear hK K))|refine And.intro ?_ ?_|refine s_call h1 ?_|refine s_callq h1 rfl ?_|refine s_call hq ?_|refine s_callq hq rfl ?_|refine s_callh [] [] c2 rfl rfl (by first|trivial|exact ⟨rfl,trivial⟩) (by decide) rfl trivial ?_
    all_goals first|(show ∀ _ _,_ → _;skip)|(simp;done)
    all_goals
      rintro r hs ⟨rfl,rfl⟩
      repeat' first|assumption|first|refine s_opt1 ?_|refine s_opt0 ?_|refine s_optq1 ?_|refine s_optq0 ?_|(refine s_norm ?_;try simp only [wsN,wsI,rmv,rng,X.ev,lkp,peel,cond_true,cond_false,nbeq,Nat.reduceBEq,reduceSub,reduceAdd,zero_add,sub_zero,sub_self,length_cons,length_nil,length_append,cons_append,nil_append,append_nil])|(refine s_take fun K hK => ?_)|(refine s_cons (fun K hK => ?_) ?_)|exact s_tnil|refine s_br ?_|refine s_done ?_|refine s_seq fun K hK => ?_|refine s_region ?_|refine s_draw ?_|refine s_tree ?_|refine s_op fun K hK => ?_|refine s_opq fun K hK => ?_|refine s_ops ?_|refine s_endq ?_|simp only [go_sem,reduceToNat,reduceEq,reduceAdd,Nat.reduceBEq,reduceLeDiff,reduceLT,Int.reduceLT,reduceLE,reduceNeg,reduceCtorEq]|(first|(refine hK _ ?_;clear hK K)|(clear hK K;refine hK _ ?_;clear hK K)|(clear hK K;clear hK K;refine hK _ ?_;clear hK K))|refine And.intro ?_ ?_
      all_goals first|(show PostS _ _ _ _ _ _;exact ⟨[],[5],.tup [rowV (.mk 5 0 ⟨#[]⟩ [c,a]) 5,.d true (.bool true)],⟨[],[.dead,.dead,.dead,.dead,.dead,rowO (.mk 5 0 ⟨#[]⟩ [c,a])]⟩,[rowO (.mk 5 0 ⟨#[]⟩ [c,a])],⟨rfl,rfl⟩,by simp,by simp [StLe,leT,leH,A.Le,A.LeL,O.Le,lkp,freeT,freeH,A.free,A.freeL,cond_true,cond_false,nbeq,nble,nblt,decide_true,decide_false,reduceLT,Nat.reduceBEq,true_and,and_true,length_cons,length_nil,true_implies,and_self,Bool.and_true,Bool.true_and,Bool.and_self,St.frzs,encs,Term.enc_eq,kids_mk],by simp [leT],(fun k h => absurd h (Nat.not_lt_zero k)),by decide,rfl,by simp [St.frzs,evRs,RV.ev,tupA,A.Le,A.LeL,lkp,op_mk,n_mk,s_mk,kids_mk,encs,Term.enc_eq,nble,nbeq],rfl⟩)|(simp;done)
  | false =>
    rw [he] at hq
    have hs : shareT a c = .mk 5 0 ⟨#[]⟩ [a,c]:=by unfold shareT;rw [he];rfl
    rw [hs] at ho ⊢
    have c2:=two3R 5 a c (by omega) (by omega) ho
    simp only [Term.v_eq,op_mk,n_mk,s_mk,kids_mk,encs,Term.enc_eq] at *
    repeat' first|assumption|first|refine s_opt1 ?_|refine s_opt0 ?_|refine s_optq1 ?_|refine s_optq0 ?_|(refine s_norm ?_;try simp only [wsN,wsI,rmv,rng,X.ev,lkp,peel,cond_true,cond_false,nbeq,Nat.reduceBEq,reduceSub,reduceAdd,zero_add,sub_zero,sub_self,length_cons,length_nil,length_append,cons_append,nil_append,append_nil])|(refine s_take fun K hK => ?_)|(refine s_cons (fun K hK => ?_) ?_)|exact s_tnil|refine s_br ?_|refine s_done ?_|refine s_seq fun K hK => ?_|refine s_region ?_|refine s_draw ?_|refine s_tree ?_|refine s_op fun K hK => ?_|refine s_opq fun K hK => ?_|refine s_ops ?_|refine s_endq ?_|simp only [go_sem,reduceToNat,reduceEq,reduceAdd,Nat.reduceBEq,reduceLeDiff,reduceLT,Int.reduceLT,reduceLE,reduceNeg,reduceCtorEq,encs,Term.enc_eq,List.getD_cons_zero]|(first|(refine hK _ ?_;clear hK K)|(clear hK K;refine hK _ ?_;clear hK K)|(clear hK K;clear hK K;refine hK _ ?_;clear hK K))|refine And.intro ?_ ?_|refine s_call h1 ?_|refine s_callq h1 rfl ?_|refine s_call hq ?_|refine s_callq hq rfl ?_|refine s_callh [] [] c2 rfl rfl (by first|trivial|exact ⟨rfl,trivial⟩) (by decide) rfl trivial ?_
    all_goals first|(show ∀ _ _,_ → _;skip)|(simp;done)
    all_goals
      rintro r hs ⟨rfl,rfl⟩
      repeat' first|assumption|first|refine s_opt1 ?_|refine s_opt0 ?_|refine s_optq1 ?_|refine s_optq0 ?_|(refine s_norm ?_;try simp only [wsN,wsI,rmv,rng,X.ev,lkp,peel,cond_true,cond_false,nbeq,Nat.reduceBEq,reduceSub,reduceAdd,zero_add,sub_zero,sub_self,length_cons,length_nil,length_append,cons_append,nil_append,append_nil])|(refine s_take fun K hK => ?_)|(refine s_cons (fun K hK => ?_) ?_)|exact s_tnil|refine s_br ?_|refine s_done ?_|refine s_seq fun K hK => ?_|refine s_region ?_|refine s_draw ?_|refine s_tree ?_|refine s_op fun K hK => ?_|refine s_opq fun K hK => ?_|refine s_ops ?_|refine s_endq ?_|simp only [go_sem,reduceToNat,reduceEq,reduceAdd,Nat.reduceBEq,reduceLeDiff,reduceLT,Int.reduceLT,reduceLE,reduceNeg,reduceCtorEq]|(first|(refine hK _ ?_;clear hK K)|(clear hK K;refine hK _ ?_;clear hK K)|(clear hK K;clear hK K;refine hK _ ?_;clear hK K))|refine And.intro ?_ ?_
      all_goals first|(show PostS _ _ _ _ _ _;exact ⟨[],[5],.tup [rowV (.mk 5 0 ⟨#[]⟩ [a,c]) 5,.d true (.bool true)],⟨[],[.dead,.dead,.dead,.dead,.dead,rowO (.mk 5 0 ⟨#[]⟩ [a,c])]⟩,[rowO (.mk 5 0 ⟨#[]⟩ [a,c])],⟨rfl,rfl⟩,by simp,by simp [StLe,leT,leH,A.Le,A.LeL,O.Le,lkp,freeT,freeH,A.free,A.freeL,cond_true,cond_false,nbeq,nble,nblt,decide_true,decide_false,reduceLT,Nat.reduceBEq,true_and,and_true,length_cons,length_nil,true_implies,and_self,Bool.and_true,Bool.true_and,Bool.and_self,St.frzs,encs,Term.enc_eq,kids_mk],by simp [leT],(fun k h => absurd h (Nat.not_lt_zero k)),by decide,rfl,by simp [St.frzs,evRs,RV.ev,tupA,A.Le,A.LeL,lkp,op_mk,n_mk,s_mk,kids_mk,encs,Term.enc_eq,nble,nbeq],rfl⟩)|(simp;done)
end Go.Proofs.YtlddcimpdkcgeaaGreatDoor
