/- Policies in a row: copies, what is held, what an old one is. -/
import Derived.Test.YtockalkgjoaicaaF4
import Derived.Test.YtockalkgjoaicaaM4
set_option linter.unusedVariables false
set_option linter.unusedSimpArgs false
set_option maxRecDepth 20000
set_option maxHeartbeats 4000000
namespace Go.Proofs.Ytockalkgjoaicaa
open Go Go.RowKit Sym
attribute [local irreducible] awp aops aopsQ gop gopQ gopO gopOQ gopV gopT awpN awpT awpTs ACall after
@[reducible] def Policy.w (p : Policy) : A:=.agg [.d false (.str p.dom),.d false (.int .i64 p.mode),.d true (.sl (encStr p.mx)),.d false (.int .i64 p.til)]
theorem Policy.w_eq (p : Policy) : p.w = .agg [.d false (.str p.dom),.d false (.int .i64 p.mode),.d true (.sl (encStr p.mx)),.d false (.int .i64 p.til)]:=rfl
theorem toPolicy_own (p : Policy) (h : p.cnt ≤ 1048576) : Ct Try.prog 13 [p.v] p.w:=by
  have hc:=toStringS_ct p.mx (by unfold Policy.cnt at h;omega) (by unfold Policy.cnt at h;omega)
  refine ok13.ct mo Try.func13 (by simp) rfl fun hok => ?_
  unfold ac13
  simp only [Policy.v_eq,Policy.w_eq] at *
  repeat' first|assumption|first|refine s_opt1 ?_|refine s_opt0 ?_|refine s_optq1 ?_|refine s_optq0 ?_|(refine s_norm ?_;try simp only [wsN,wsI,rmv,rng,X.ev,lkp,peel,cond_true,cond_false,nbeq,Nat.reduceBEq,Nat.reduceSub,Nat.reduceAdd,Nat.zero_add,Nat.sub_zero,Nat.sub_self,List.length_cons,List.length_nil,List.length_append,List.cons_append,List.nil_append,List.append_nil])|(refine s_take fun K hK => ?_)|(refine s_cons (fun K hK => ?_) ?_)|exact s_tnil|refine s_br ?_|refine s_done ?_|refine s_seq fun K hK => ?_|refine s_region ?_|refine s_draw ?_|refine s_tree ?_|refine s_op fun K hK => ?_|refine s_opq fun K hK => ?_|refine s_ops ?_|refine s_endq ?_|simp only [go_sem,Int.reduceToNat,Int.reduceEq,Nat.reduceAdd,Nat.reduceBEq,Nat.reduceLeDiff,Nat.reduceLT,Int.reduceLT,Int.reduceLE,Int.reduceNeg,reduceCtorEq]|(first|(refine hK _ ?_;clear hK K)|(clear hK K;refine hK _ ?_;clear hK K)|(clear hK K;clear hK K;refine hK _ ?_;clear hK K))|refine And.intro ?_ ?_|refine s_call hc ?_
  all_goals first|(simp [go_sem,tids,A.tid,A.tid.go,List.cons_append,frzT,St.frz,A.sub,A.subL,O.sub,subT,subH,frzY,frzZ,Post,aret,evRs,RV.ev,tupA,A.Le,A.LeL,lkp,St.frzs,St.frz,A.ids,A.idsL,cond_true,cond_false,nbeq,nble,decide_true,decide_false,Nat.reduceLeDiff,Nat.reduceBEq,Nat.reduceAdd,beq_self_eq_true,true_and,and_true,true_implies,List.append_nil,List.nil_append,List.getElem?_cons_zero,List.getElem?_cons_succ,List.length_cons,List.length_nil,List.drop_zero,List.take_succ_cons,List.take_zero,and_self];done)|(simp [A.LeL];done)|skip
theorem szPolicyS_ct (ts : List Policy) (left : Int) (h0 : 0 ≤ left) (h1 : left ≤ 1048576) : Ct Try.prog 4 [.d false (.sl (encPs ts)),.d false (.int .i64 left)] (.d true (.int .i64 (lft (ts.length + cntPs ts) left))):=by
  refine ok4.ct mo Try.func4 (by simp) rfl fun hok => ?_
  have hs : ts.length ≤ 140737488355328:=by simp only [A.OkL,A.Ok,D.Ok,encPs_length] at hok;exact hok.1.1
  have hw0 : wrap64 (left - (ts.length : Int)) = left - ts.length:=w64 (by omega) (by omega)
  unfold ac4
  by_cases hb : left - (ts.length : Int) < 0
  · have d0 : decide (left - (ts.length : Int) < 0) = true:=decide_eq_true hb
    have hr : lft (ts.length + cntPs ts) left = -1:=by simp only [lft];rw [if_neg (by omega)]
    rw [hr]
    repeat' first|first|refine s_opt1 ?_|refine s_opt0 ?_|refine s_optq1 ?_|refine s_optq0 ?_|(refine s_norm ?_;try simp only [wsN,wsI,rmv,rng,X.ev,lkp,peel,cond_true,cond_false,nbeq,Nat.reduceBEq,Nat.reduceSub,Nat.reduceAdd,Nat.zero_add,Nat.sub_zero,Nat.sub_self,List.length_cons,List.length_nil,List.length_append,List.cons_append,List.nil_append,List.append_nil])|(refine s_take fun K hK => ?_)|(refine s_cons (fun K hK => ?_) ?_)|exact s_tnil|refine s_br ?_|refine s_done ?_|refine s_seq fun K hK => ?_|refine s_region ?_|refine s_draw ?_|refine s_tree ?_|refine s_op fun K hK => ?_|refine s_opq fun K hK => ?_|refine s_ops ?_|refine s_endq ?_|simp only [go_sem,Int.reduceToNat,Int.reduceEq,Nat.reduceAdd,Nat.reduceBEq,Nat.reduceLeDiff,Nat.reduceLT,Int.reduceLT,Int.reduceLE,Int.reduceNeg,reduceCtorEq,encPs_length,hw0,d0]|(first|(refine hK _ ?_;clear hK K)|(clear hK K;refine hK _ ?_;clear hK K)|(clear hK K;clear hK K;refine hK _ ?_;clear hK K))|refine And.intro ?_ ?_
    all_goals first|(simp [go_sem,tids,A.tid,A.tid.go,List.cons_append,frzT,St.frz,A.sub,A.subL,O.sub,subT,subH,frzY,frzZ,Post,aret,evRs,RV.ev,tupA,A.Le,A.LeL,lkp,St.frzs,St.frz,A.ids,A.idsL,cond_true,cond_false,nbeq,nble,decide_true,decide_false,Nat.reduceLeDiff,Nat.reduceBEq,Nat.reduceAdd,beq_self_eq_true,true_and,and_true,true_implies,List.append_nil,List.nil_append,List.getElem?_cons_zero,List.getElem?_cons_succ,List.length_cons,List.length_nil,List.drop_zero,List.take_succ_cons,List.take_zero,and_self];done)|skip
  · have d0 : decide (left - (ts.length : Int) < 0) = false:=decide_eq_false hb
    repeat' first|first|refine s_opt1 ?_|refine s_opt0 ?_|refine s_optq1 ?_|refine s_optq0 ?_|(refine s_norm ?_;try simp only [wsN,wsI,rmv,rng,X.ev,lkp,peel,cond_true,cond_false,nbeq,Nat.reduceBEq,Nat.reduceSub,Nat.reduceAdd,Nat.zero_add,Nat.sub_zero,Nat.sub_self,List.length_cons,List.length_nil,List.length_append,List.cons_append,List.nil_append,List.append_nil])|(refine s_take fun K hK => ?_)|(refine s_cons (fun K hK => ?_) ?_)|exact s_tnil|refine s_br ?_|refine s_done ?_|refine s_seq fun K hK => ?_|refine s_region ?_|refine s_draw ?_|refine s_tree ?_|refine s_op fun K hK => ?_|refine s_opq fun K hK => ?_|refine s_ops ?_|refine s_endq ?_|simp only [go_sem,Int.reduceToNat,Int.reduceEq,Nat.reduceAdd,Nat.reduceBEq,Nat.reduceLeDiff,Nat.reduceLT,Int.reduceLT,Int.reduceLE,Int.reduceNeg,reduceCtorEq,encPs_length,hw0,d0]|(first|(refine hK _ ?_;clear hK K)|(clear hK K;refine hK _ ?_;clear hK K)|(clear hK K;clear hK K;refine hK _ ?_;clear hK K))|refine And.intro ?_ ?_
    refine s_loop { p : Nat × Int // p.1 ≤ ts.length ∧ 0 ≤ p.2 ∧ p.2 ≤ 1048576 ∧ lft (cntPs (ts.drop p.1)) p.2 = lft (ts.length + cntPs ts) left } (fun p => ⟨[(0,.d false (.sl (encPs ts))),(1,.d true (.int .i64 p.1.2)),(5,.d true (.int .i64 p.1.1))],[]⟩) (fun p => ts.length - p.1.1) ⟨(0,left - ts.length),by simp,by simp;omega,by simp;omega,by simp only [lft,List.drop_zero];split <;> split <;> omega⟩ ?_ ?_
    · simp [StLe,leT,leH,A.Le,A.LeL,O.Le,lkp,freeT,freeH,A.free,A.freeL,cond_true,cond_false,nbeq,nble,nblt,decide_true,decide_false,Nat.reduceLT,Nat.reduceBEq,true_and,and_true,List.length_cons,List.length_nil,true_implies,and_self,Bool.and_true,Bool.true_and,Bool.and_self]
    · rintro ⟨⟨i,l⟩,hi,hl0,hl1,hl⟩ K1 hK1
      simp only at hi hl0 hl1 hl ⊢
      have hw : wrap64 ((i : Int) + 1) = ((i + 1 : Nat) : Int):=by rw [w64 (by omega) (by omega)];omega
      by_cases hlt : i < ts.length
      · have d1 : decide ((i : Int) < ts.length) = true:=decide_eq_true (by omega)
        have hget : ts[i]? = some ts[i]:=List.getElem?_eq_getElem hlt
        have hc:=szPolicy_ct ts[i] l hl0 hl1
        rw [cntPs_drop ts i hlt] at hl
        simp only [Policy.v_eq] at hc
        by_cases hd : (ts[i].cnt : Int) ≤ l
        · have he : lft ts[i].cnt l = l - ts[i].cnt:=if_pos hd
          have d2 : decide (l - (ts[i].cnt : Int) < 0) = false:=decide_eq_false (by omega)
          rw [he] at hc
          repeat' first|first|refine s_opt1 ?_|refine s_opt0 ?_|refine s_optq1 ?_|refine s_optq0 ?_|(refine s_norm ?_;try simp only [wsN,wsI,rmv,rng,X.ev,lkp,peel,cond_true,cond_false,nbeq,Nat.reduceBEq,Nat.reduceSub,Nat.reduceAdd,Nat.zero_add,Nat.sub_zero,Nat.sub_self,List.length_cons,List.length_nil,List.length_append,List.cons_append,List.nil_append,List.append_nil])|(refine s_take fun K hK => ?_)|(refine s_cons (fun K hK => ?_) ?_)|exact s_tnil|refine s_br ?_|refine s_done ?_|refine s_seq fun K hK => ?_|refine s_region ?_|refine s_draw ?_|refine s_tree ?_|refine s_op fun K hK => ?_|refine s_opq fun K hK => ?_|refine s_ops ?_|refine s_endq ?_|simp only [go_sem,Int.reduceToNat,Int.reduceEq,Nat.reduceAdd,Nat.reduceBEq,Nat.reduceLeDiff,Nat.reduceLT,Int.reduceLT,Int.reduceLE,Int.reduceNeg,reduceCtorEq,d1,d2,hw,encPs_length,Int.toNat_natCast,encPs_getD ts i _ hget,Policy.enc_eq]|(first|(refine hK _ ?_;clear hK K)|(clear hK K;refine hK _ ?_;clear hK K)|(clear hK K;clear hK K;refine hK _ ?_;clear hK K))|refine And.intro ?_ ?_|refine s_call hc ?_
          all_goals first|omega|(simp;done)|skip
          refine hK1 _ ⟨(i + 1,l - ts[i].cnt),by simp;omega,by simp;omega,by simp;omega,by rw [← hl];simp only [lft];split <;> split <;> omega⟩ ?_ (by simp;omega)
          simp [StLe,leT,leH,A.Le,A.LeL,O.Le,lkp,freeT,freeH,A.free,A.freeL,cond_true,cond_false,nbeq,nble,nblt,decide_true,decide_false,Nat.reduceLT,Nat.reduceBEq,true_and,and_true,List.length_cons,List.length_nil,true_implies,and_self,Bool.and_true,Bool.true_and,Bool.and_self]
        · have he : lft ts[i].cnt l = -1:=if_neg hd
          have hr : lft (ts.length + cntPs ts) left = -1:=by rw [← hl];simp only [lft];rw [if_neg (by omega)]
          rw [he] at hc
          repeat' first|first|refine s_opt1 ?_|refine s_opt0 ?_|refine s_optq1 ?_|refine s_optq0 ?_|(refine s_norm ?_;try simp only [wsN,wsI,rmv,rng,X.ev,lkp,peel,cond_true,cond_false,nbeq,Nat.reduceBEq,Nat.reduceSub,Nat.reduceAdd,Nat.zero_add,Nat.sub_zero,Nat.sub_self,List.length_cons,List.length_nil,List.length_append,List.cons_append,List.nil_append,List.append_nil])|(refine s_take fun K hK => ?_)|(refine s_cons (fun K hK => ?_) ?_)|exact s_tnil|refine s_br ?_|refine s_done ?_|refine s_seq fun K hK => ?_|refine s_region ?_|refine s_draw ?_|refine s_tree ?_|refine s_op fun K hK => ?_|refine s_opq fun K hK => ?_|refine s_ops ?_|refine s_endq ?_|simp only [go_sem,Int.reduceToNat,Int.reduceEq,Nat.reduceAdd,Nat.reduceBEq,Nat.reduceLeDiff,Nat.reduceLT,Int.reduceLT,Int.reduceLE,Int.reduceNeg,reduceCtorEq,d1,hw,encPs_length,Int.toNat_natCast,encPs_getD ts i _ hget,Policy.enc_eq,show decide ((-1 : Int) < 0) = true from rfl]|(first|(refine hK _ ?_;clear hK K)|(clear hK K;refine hK _ ?_;clear hK K)|(clear hK K;clear hK K;refine hK _ ?_;clear hK K))|refine And.intro ?_ ?_|refine s_call hc ?_
          all_goals first|omega|(simp;done)|(simp [go_sem,tids,A.tid,A.tid.go,List.cons_append,frzT,St.frz,A.sub,A.subL,O.sub,subT,subH,frzY,frzZ,Post,aret,evRs,RV.ev,tupA,A.Le,A.LeL,lkp,St.frzs,St.frz,A.ids,A.idsL,cond_true,cond_false,nbeq,nble,decide_true,decide_false,Nat.reduceLeDiff,Nat.reduceBEq,Nat.reduceAdd,beq_self_eq_true,true_and,and_true,true_implies,List.append_nil,List.nil_append,List.getElem?_cons_zero,List.getElem?_cons_succ,List.length_cons,List.length_nil,List.drop_zero,List.take_succ_cons,List.take_zero,and_self,hr];done)|skip
      · have d1 : decide ((i : Int) < ts.length) = false:=decide_eq_false (by omega)
        have hr : lft (ts.length + cntPs ts) left = l:=by rw [← hl,List.drop_of_length_le (by omega)];simp [cntPs,lft,hl0]
        repeat' first|first|refine s_opt1 ?_|refine s_opt0 ?_|refine s_optq1 ?_|refine s_optq0 ?_|(refine s_norm ?_;try simp only [wsN,wsI,rmv,rng,X.ev,lkp,peel,cond_true,cond_false,nbeq,Nat.reduceBEq,Nat.reduceSub,Nat.reduceAdd,Nat.zero_add,Nat.sub_zero,Nat.sub_self,List.length_cons,List.length_nil,List.length_append,List.cons_append,List.nil_append,List.append_nil])|(refine s_take fun K hK => ?_)|(refine s_cons (fun K hK => ?_) ?_)|exact s_tnil|refine s_br ?_|refine s_done ?_|refine s_seq fun K hK => ?_|refine s_region ?_|refine s_draw ?_|refine s_tree ?_|refine s_op fun K hK => ?_|refine s_opq fun K hK => ?_|refine s_ops ?_|refine s_endq ?_|simp only [go_sem,Int.reduceToNat,Int.reduceEq,Nat.reduceAdd,Nat.reduceBEq,Nat.reduceLeDiff,Nat.reduceLT,Int.reduceLT,Int.reduceLE,Int.reduceNeg,reduceCtorEq,d1,encPs_length]|(first|(refine hK _ ?_;clear hK K)|(clear hK K;refine hK _ ?_;clear hK K)|(clear hK K;clear hK K;refine hK _ ?_;clear hK K))|refine And.intro ?_ ?_
        all_goals first|(simp [go_sem,tids,A.tid,A.tid.go,List.cons_append,frzT,St.frz,A.sub,A.subL,O.sub,subT,subH,frzY,frzZ,Post,aret,evRs,RV.ev,tupA,A.Le,A.LeL,lkp,St.frzs,St.frz,A.ids,A.idsL,cond_true,cond_false,nbeq,nble,decide_true,decide_false,Nat.reduceLeDiff,Nat.reduceBEq,Nat.reduceAdd,beq_self_eq_true,true_and,and_true,true_implies,List.append_nil,List.nil_append,List.getElem?_cons_zero,List.getElem?_cons_succ,List.length_cons,List.length_nil,List.drop_zero,List.take_succ_cons,List.take_zero,and_self,hr];done)|skip
theorem eqPolicyS_ct (ts us : List Policy) : Ct Try.prog 8 [.d false (.sl (encPs ts)),.d false (.sl (encPs us))] (.d true (.bool (eqPs ts us))):=by
  refine ok8.ct mo Try.func8 (by simp) rfl fun hok => ?_
  have hs : ts.length ≤ 140737488355328:=by simp only [A.OkL,A.Ok,D.Ok,encPs_length] at hok;exact hok.1.1
  unfold ac8
  by_cases hlen : ts.length = us.length
  · have d0 : decide ((ts.length : Int) = us.length) = true:=decide_eq_true (by omega)
    repeat' first|first|refine s_opt1 ?_|refine s_opt0 ?_|refine s_optq1 ?_|refine s_optq0 ?_|(refine s_norm ?_;try simp only [wsN,wsI,rmv,rng,X.ev,lkp,peel,cond_true,cond_false,nbeq,Nat.reduceBEq,Nat.reduceSub,Nat.reduceAdd,Nat.zero_add,Nat.sub_zero,Nat.sub_self,List.length_cons,List.length_nil,List.length_append,List.cons_append,List.nil_append,List.append_nil])|(refine s_take fun K hK => ?_)|(refine s_cons (fun K hK => ?_) ?_)|exact s_tnil|refine s_br ?_|refine s_done ?_|refine s_seq fun K hK => ?_|refine s_region ?_|refine s_draw ?_|refine s_tree ?_|refine s_op fun K hK => ?_|refine s_opq fun K hK => ?_|refine s_ops ?_|refine s_endq ?_|simp only [go_sem,Int.reduceToNat,Int.reduceEq,Nat.reduceAdd,Nat.reduceBEq,Nat.reduceLeDiff,Nat.reduceLT,Int.reduceLT,Int.reduceLE,Int.reduceNeg,reduceCtorEq,encPs_length,d0]|(first|(refine hK _ ?_;clear hK K)|(clear hK K;refine hK _ ?_;clear hK K)|(clear hK K;clear hK K;refine hK _ ?_;clear hK K))|refine And.intro ?_ ?_
    refine s_loop { i : Nat // i ≤ ts.length ∧ eqPs (ts.drop i) (us.drop i) = eqPs ts us } (fun i => ⟨[(0,.d false (.sl (encPs ts))),(1,.d false (.sl (encPs us))),(5,.d true (.int .i64 i.1))],[]⟩) (fun i => ts.length - i.1) ⟨0,Nat.zero_le _,rfl⟩ ?_ ?_
    · simp [StLe,leT,leH,A.Le,A.LeL,O.Le,lkp,freeT,freeH,A.free,A.freeL,cond_true,cond_false,nbeq,nble,nblt,decide_true,decide_false,Nat.reduceLT,Nat.reduceBEq,true_and,and_true,List.length_cons,List.length_nil,true_implies,and_self,Bool.and_true,Bool.true_and,Bool.and_self]
    · rintro ⟨i,hi,he⟩ K1 hK1
      simp only
      have hw : wrap64 ((i : Int) + 1) = ((i + 1 : Nat) : Int):=by rw [w64 (by omega) (by omega)];omega
      by_cases hlt : i < ts.length
      · have d1 : decide ((i : Int) < ts.length) = true:=decide_eq_true (by omega)
        have hlu : i < us.length:=by omega
        have hget : ts[i]? = some ts[i]:=List.getElem?_eq_getElem hlt
        have hgeu : us[i]? = some us[i]:=List.getElem?_eq_getElem hlu
        have hc:=eqPolicy_ct ts[i] us[i]
        rw [List.drop_eq_getElem_cons hlt,List.drop_eq_getElem_cons hlu,eqPs] at he
        simp only [Policy.v_eq] at hc
        cases hd : eqP ts[i] us[i] with
        | true =>
          rw [hd] at hc
          rw [hd,Bool.true_and] at he
          repeat' first|first|refine s_opt1 ?_|refine s_opt0 ?_|refine s_optq1 ?_|refine s_optq0 ?_|(refine s_norm ?_;try simp only [wsN,wsI,rmv,rng,X.ev,lkp,peel,cond_true,cond_false,nbeq,Nat.reduceBEq,Nat.reduceSub,Nat.reduceAdd,Nat.zero_add,Nat.sub_zero,Nat.sub_self,List.length_cons,List.length_nil,List.length_append,List.cons_append,List.nil_append,List.append_nil])|(refine s_take fun K hK => ?_)|(refine s_cons (fun K hK => ?_) ?_)|exact s_tnil|refine s_br ?_|refine s_done ?_|refine s_seq fun K hK => ?_|refine s_region ?_|refine s_draw ?_|refine s_tree ?_|refine s_op fun K hK => ?_|refine s_opq fun K hK => ?_|refine s_ops ?_|refine s_endq ?_|simp only [go_sem,Int.reduceToNat,Int.reduceEq,Nat.reduceAdd,Nat.reduceBEq,Nat.reduceLeDiff,Nat.reduceLT,Int.reduceLT,Int.reduceLE,Int.reduceNeg,reduceCtorEq,d1,hw,encPs_length,Int.toNat_natCast,encPs_getD ts i _ hget,encPs_getD us i _ hgeu,Policy.enc_eq]|(first|(refine hK _ ?_;clear hK K)|(clear hK K;refine hK _ ?_;clear hK K)|(clear hK K;clear hK K;refine hK _ ?_;clear hK K))|refine And.intro ?_ ?_|refine s_callq hc rfl ?_
          all_goals first|omega|(simp;done)|skip
          refine hK1 _ ⟨i + 1,by omega,he⟩ ?_ (by simp;omega)
          simp [StLe,leT,leH,A.Le,A.LeL,O.Le,lkp,freeT,freeH,A.free,A.freeL,cond_true,cond_false,nbeq,nble,nblt,decide_true,decide_false,Nat.reduceLT,Nat.reduceBEq,true_and,and_true,List.length_cons,List.length_nil,true_implies,and_self,Bool.and_true,Bool.true_and,Bool.and_self]
        | false =>
          rw [hd] at hc
          rw [hd,Bool.false_and] at he
          repeat' first|first|refine s_opt1 ?_|refine s_opt0 ?_|refine s_optq1 ?_|refine s_optq0 ?_|(refine s_norm ?_;try simp only [wsN,wsI,rmv,rng,X.ev,lkp,peel,cond_true,cond_false,nbeq,Nat.reduceBEq,Nat.reduceSub,Nat.reduceAdd,Nat.zero_add,Nat.sub_zero,Nat.sub_self,List.length_cons,List.length_nil,List.length_append,List.cons_append,List.nil_append,List.append_nil])|(refine s_take fun K hK => ?_)|(refine s_cons (fun K hK => ?_) ?_)|exact s_tnil|refine s_br ?_|refine s_done ?_|refine s_seq fun K hK => ?_|refine s_region ?_|refine s_draw ?_|refine s_tree ?_|refine s_op fun K hK => ?_|refine s_opq fun K hK => ?_|refine s_ops ?_|refine s_endq ?_|simp only [go_sem,Int.reduceToNat,Int.reduceEq,Nat.reduceAdd,Nat.reduceBEq,Nat.reduceLeDiff,Nat.reduceLT,Int.reduceLT,Int.reduceLE,Int.reduceNeg,reduceCtorEq,d1,hw,encPs_length,Int.toNat_natCast,encPs_getD ts i _ hget,encPs_getD us i _ hgeu,Policy.enc_eq]|(first|(refine hK _ ?_;clear hK K)|(clear hK K;refine hK _ ?_;clear hK K)|(clear hK K;clear hK K;refine hK _ ?_;clear hK K))|refine And.intro ?_ ?_|refine s_callq hc rfl ?_
          all_goals first|omega|(simp;done)|(simp [go_sem,tids,A.tid,A.tid.go,List.cons_append,frzT,St.frz,A.sub,A.subL,O.sub,subT,subH,frzY,frzZ,Post,aret,evRs,RV.ev,tupA,A.Le,A.LeL,lkp,St.frzs,St.frz,A.ids,A.idsL,cond_true,cond_false,nbeq,nble,decide_true,decide_false,Nat.reduceLeDiff,Nat.reduceBEq,Nat.reduceAdd,beq_self_eq_true,true_and,and_true,true_implies,List.append_nil,List.nil_append,List.getElem?_cons_zero,List.getElem?_cons_succ,List.length_cons,List.length_nil,List.drop_zero,List.take_succ_cons,List.take_zero,and_self,← he];done)|skip
      · have d1 : decide ((i : Int) < ts.length) = false:=decide_eq_false (by omega)
        rw [List.drop_of_length_le (by omega),List.drop_of_length_le (by omega),eqPs] at he
        repeat' first|first|refine s_opt1 ?_|refine s_opt0 ?_|refine s_optq1 ?_|refine s_optq0 ?_|(refine s_norm ?_;try simp only [wsN,wsI,rmv,rng,X.ev,lkp,peel,cond_true,cond_false,nbeq,Nat.reduceBEq,Nat.reduceSub,Nat.reduceAdd,Nat.zero_add,Nat.sub_zero,Nat.sub_self,List.length_cons,List.length_nil,List.length_append,List.cons_append,List.nil_append,List.append_nil])|(refine s_take fun K hK => ?_)|(refine s_cons (fun K hK => ?_) ?_)|exact s_tnil|refine s_br ?_|refine s_done ?_|refine s_seq fun K hK => ?_|refine s_region ?_|refine s_draw ?_|refine s_tree ?_|refine s_op fun K hK => ?_|refine s_opq fun K hK => ?_|refine s_ops ?_|refine s_endq ?_|simp only [go_sem,Int.reduceToNat,Int.reduceEq,Nat.reduceAdd,Nat.reduceBEq,Nat.reduceLeDiff,Nat.reduceLT,Int.reduceLT,Int.reduceLE,Int.reduceNeg,reduceCtorEq,d1,encPs_length]|(first|(refine hK _ ?_;clear hK K)|(clear hK K;refine hK _ ?_;clear hK K)|(clear hK K;clear hK K;refine hK _ ?_;clear hK K))|refine And.intro ?_ ?_
        all_goals first|(simp [go_sem,tids,A.tid,A.tid.go,List.cons_append,frzT,St.frz,A.sub,A.subL,O.sub,subT,subH,frzY,frzZ,Post,aret,evRs,RV.ev,tupA,A.Le,A.LeL,lkp,St.frzs,St.frz,A.ids,A.idsL,cond_true,cond_false,nbeq,nble,decide_true,decide_false,Nat.reduceLeDiff,Nat.reduceBEq,Nat.reduceAdd,beq_self_eq_true,true_and,and_true,true_implies,List.append_nil,List.nil_append,List.getElem?_cons_zero,List.getElem?_cons_succ,List.length_cons,List.length_nil,List.drop_zero,List.take_succ_cons,List.take_zero,and_self,← he];done)|skip
  · have d0 : decide ((ts.length : Int) = us.length) = false:=decide_eq_false (by omega)
    repeat' first|first|refine s_opt1 ?_|refine s_opt0 ?_|refine s_optq1 ?_|refine s_optq0 ?_|(refine s_norm ?_;try simp only [wsN,wsI,rmv,rng,X.ev,lkp,peel,cond_true,cond_false,nbeq,Nat.reduceBEq,Nat.reduceSub,Nat.reduceAdd,Nat.zero_add,Nat.sub_zero,Nat.sub_self,List.length_cons,List.length_nil,List.length_append,List.cons_append,List.nil_append,List.append_nil])|(refine s_take fun K hK => ?_)|(refine s_cons (fun K hK => ?_) ?_)|exact s_tnil|refine s_br ?_|refine s_done ?_|refine s_seq fun K hK => ?_|refine s_region ?_|refine s_draw ?_|refine s_tree ?_|refine s_op fun K hK => ?_|refine s_opq fun K hK => ?_|refine s_ops ?_|refine s_endq ?_|simp only [go_sem,Int.reduceToNat,Int.reduceEq,Nat.reduceAdd,Nat.reduceBEq,Nat.reduceLeDiff,Nat.reduceLT,Int.reduceLT,Int.reduceLE,Int.reduceNeg,reduceCtorEq,encPs_length,d0]|(first|(refine hK _ ?_;clear hK K)|(clear hK K;refine hK _ ?_;clear hK K)|(clear hK K;clear hK K;refine hK _ ?_;clear hK K))|refine And.intro ?_ ?_
    all_goals first|(simp [go_sem,tids,A.tid,A.tid.go,List.cons_append,frzT,St.frz,A.sub,A.subL,O.sub,subT,subH,frzY,frzZ,Post,aret,evRs,RV.ev,tupA,A.Le,A.LeL,lkp,St.frzs,St.frz,A.ids,A.idsL,cond_true,cond_false,nbeq,nble,decide_true,decide_false,Nat.reduceLeDiff,Nat.reduceBEq,Nat.reduceAdd,beq_self_eq_true,true_and,and_true,true_implies,List.append_nil,List.nil_append,List.getElem?_cons_zero,List.getElem?_cons_succ,List.length_cons,List.length_nil,List.drop_zero,List.take_succ_cons,List.take_zero,and_self,eqPs_len hlen];done)|skip
theorem encPs_snoc (ts : List Policy) (i : Nat) (h : i < ts.length) : encPs (ts.take i) ++ [ts[i].enc] = encPs (ts.take (i + 1)):=by
  rw [List.take_succ_eq_append_getElem h,encPs,encPs,List.map_append];rfl
theorem encPs_each (ts : List Policy) : ∀ l,l ∈ encPs ts → l.length = 4:=by
  intro l hl
  obtain ⟨p,_,rfl⟩:=List.mem_map.1 hl
  rfl
theorem toPolicyS_own (ts : List Policy) (h : ts.length + cntPs ts ≤ 1048576) : Ct Try.prog 6 [.d false (.sl (encPs ts))] (.d true (.sl (encPs ts))):=by
  refine ok6.ct mo Try.func6 (by simp) rfl fun hok => ?_
  unfold ac6
  repeat' first|first|refine s_opt1 ?_|refine s_opt0 ?_|refine s_optq1 ?_|refine s_optq0 ?_|(refine s_norm ?_;try simp only [wsN,wsI,rmv,rng,X.ev,lkp,peel,cond_true,cond_false,nbeq,Nat.reduceBEq,Nat.reduceSub,Nat.reduceAdd,Nat.zero_add,Nat.sub_zero,Nat.sub_self,List.length_cons,List.length_nil,List.length_append,List.cons_append,List.nil_append,List.append_nil])|(refine s_take fun K hK => ?_)|(refine s_cons (fun K hK => ?_) ?_)|exact s_tnil|refine s_br ?_|refine s_done ?_|refine s_seq fun K hK => ?_|refine s_region ?_|refine s_draw ?_|refine s_tree ?_|refine s_op fun K hK => ?_|refine s_opq fun K hK => ?_|refine s_ops ?_|refine s_endq ?_|simp only [go_sem,Int.reduceToNat,Int.reduceEq,Nat.reduceAdd,Nat.reduceBEq,Nat.reduceLeDiff,Nat.reduceLT,Int.reduceLT,Int.reduceLE,Int.reduceNeg,reduceCtorEq,encPs_length,Int.toNat_natCast]|(first|(refine hK _ ?_;clear hK K)|(clear hK K;refine hK _ ?_;clear hK K)|(clear hK K;clear hK K;refine hK _ ?_;clear hK K))|refine And.intro ?_ ?_
  all_goals first|omega|(simp;done)|skip
  refine s_loop { i : Nat // i ≤ ts.length } (fun i => ⟨[(0,.d false (.sl (encPs ts))),(3,.osl 1),(4,.d true (.int .i64 i.1))],[.dead,.row true 34 4 (fillG Policy.enc ts i.1 [.str ⟨#[]⟩,.int .i64 0,.sl [],.int .i64 0])]⟩) (fun i => ts.length - i.1) ⟨0,Nat.zero_le _⟩ ?_ ?_
  · simp [StLe,leT,leH,A.Le,A.LeL,O.Le,lkp,freeT,freeH,A.free,A.freeL,cond_true,cond_false,nbeq,nble,nblt,decide_true,decide_false,Nat.reduceLT,Nat.reduceBEq,true_and,and_true,List.length_cons,List.length_nil,true_implies,and_self,Bool.and_true,Bool.true_and,Bool.and_self,fillG_zero]
  · rintro ⟨i,hi⟩ K1 hK1
    simp only
    have hw : wrap64 ((i : Int) + 1) = ((i + 1 : Nat) : Int):=by rw [w64 (by omega) (by omega)];omega
    have hfl:=fillG_len Policy.enc ts i [.str ⟨#[]⟩,.int .i64 0,.sl [],.int .i64 0] hi
    by_cases hlt : i < ts.length
    · have d1 : decide ((i : Int) < ts.length) = true:=decide_eq_true (by omega)
      have hget : ts[i]? = some ts[i]:=List.getElem?_eq_getElem hlt
      have hc:=toPolicy_own ts[i] (by have:=cntPs_mem (List.getElem_mem hlt);omega)
      have hset:=fillG_set Policy.enc ts i [.str ⟨#[]⟩,.int .i64 0,.sl [],.int .i64 0] _ hget
      simp only [Policy.v_eq,Policy.w_eq] at hc
      rw [Policy.enc_eq] at hset
      repeat' first|first|refine s_opt1 ?_|refine s_opt0 ?_|refine s_optq1 ?_|refine s_optq0 ?_|(refine s_norm ?_;try simp only [wsN,wsI,rmv,rng,X.ev,lkp,peel,cond_true,cond_false,nbeq,Nat.reduceBEq,Nat.reduceSub,Nat.reduceAdd,Nat.zero_add,Nat.sub_zero,Nat.sub_self,List.length_cons,List.length_nil,List.length_append,List.cons_append,List.nil_append,List.append_nil])|(refine s_take fun K hK => ?_)|(refine s_cons (fun K hK => ?_) ?_)|exact s_tnil|refine s_br ?_|refine s_done ?_|refine s_seq fun K hK => ?_|refine s_region ?_|refine s_draw ?_|refine s_tree ?_|refine s_op fun K hK => ?_|refine s_opq fun K hK => ?_|refine s_ops ?_|refine s_endq ?_|simp only [go_sem,Int.reduceToNat,Int.reduceEq,Nat.reduceAdd,Nat.reduceBEq,Nat.reduceLeDiff,Nat.reduceLT,Int.reduceLT,Int.reduceLE,Int.reduceNeg,reduceCtorEq,d1,hw,encPs_length,hfl,hset,Int.toNat_natCast,encPs_getD ts i _ hget,Policy.enc_eq]|(first|(refine hK _ ?_;clear hK K)|(clear hK K;refine hK _ ?_;clear hK K)|(clear hK K;clear hK K;refine hK _ ?_;clear hK K))|refine And.intro ?_ ?_|refine s_call hc ?_
      all_goals first|omega|(simp;done)|skip
      refine hK1 _ ⟨i + 1,by omega⟩ ?_ (by simp;omega)
      simp [StLe,leT,leH,A.Le,A.LeL,O.Le,lkp,freeT,freeH,A.free,A.freeL,cond_true,cond_false,nbeq,nble,nblt,decide_true,decide_false,Nat.reduceLT,Nat.reduceBEq,true_and,and_true,List.length_cons,List.length_nil,true_implies,and_self,Bool.and_true,Bool.true_and,Bool.and_self]
    · have d1 : decide ((i : Int) < ts.length) = false:=decide_eq_false (by omega)
      have hie : i = ts.length:=by omega
      subst hie
      repeat' first|first|refine s_opt1 ?_|refine s_opt0 ?_|refine s_optq1 ?_|refine s_optq0 ?_|(refine s_norm ?_;try simp only [wsN,wsI,rmv,rng,X.ev,lkp,peel,cond_true,cond_false,nbeq,Nat.reduceBEq,Nat.reduceSub,Nat.reduceAdd,Nat.zero_add,Nat.sub_zero,Nat.sub_self,List.length_cons,List.length_nil,List.length_append,List.cons_append,List.nil_append,List.append_nil])|(refine s_take fun K hK => ?_)|(refine s_cons (fun K hK => ?_) ?_)|exact s_tnil|refine s_br ?_|refine s_done ?_|refine s_seq fun K hK => ?_|refine s_region ?_|refine s_draw ?_|refine s_tree ?_|refine s_op fun K hK => ?_|refine s_opq fun K hK => ?_|refine s_ops ?_|refine s_endq ?_|simp only [go_sem,Int.reduceToNat,Int.reduceEq,Nat.reduceAdd,Nat.reduceBEq,Nat.reduceLeDiff,Nat.reduceLT,Int.reduceLT,Int.reduceLE,Int.reduceNeg,reduceCtorEq,d1,encPs_length]|(first|(refine hK _ ?_;clear hK K)|(clear hK K;refine hK _ ?_;clear hK K)|(clear hK K;clear hK K;refine hK _ ?_;clear hK K))|refine And.intro ?_ ?_
      all_goals first|(simp [go_sem,tids,A.tid,A.tid.go,List.cons_append,frzT,St.frz,A.sub,A.subL,O.sub,subT,subH,frzY,frzZ,Post,aret,evRs,RV.ev,tupA,A.Le,A.LeL,lkp,St.frzs,St.frz,A.ids,A.idsL,cond_true,cond_false,nbeq,nble,decide_true,decide_false,Nat.reduceLeDiff,Nat.reduceBEq,Nat.reduceAdd,beq_self_eq_true,true_and,and_true,true_implies,List.append_nil,List.nil_append,List.getElem?_cons_zero,List.getElem?_cons_succ,List.length_cons,List.length_nil,List.drop_zero,List.take_succ_cons,List.take_zero,and_self,fillG_end,encPs];done)|skip
/-! ### The reference -/
def keptP (ps : List Policy) (now : Int) : List Policy:=ps.filter fun p => decide (now ≤ p.til)
theorem keptP_succ (ps : List Policy) (now : Int) (i : Nat) (h : i < ps.length) : keptP (ps.take (i + 1)) now = keptP (ps.take i) now ++ (if now ≤ ps[i].til then [ps[i]] else []):=by
  rw [List.take_succ_eq_append_getElem h,keptP,List.filter_append]
  congr 1
  by_cases hh : now ≤ ps[i].til <;> simp [hh]
theorem keptP_len (ps : List Policy) (now : Int) (i : Nat) : (keptP (ps.take i) now).length ≤ ps.length:=by
  refine Nat.le_trans (List.length_filter_le _ _) ?_
  rw [List.length_take];omega
theorem l7Copy_ct (p : Policy) (h : p.cnt ≤ 1048576) : Ct Try.prog 12 [p.v] p.v:=by
  have hm : (encStr p.mx).length ≤ 1048576:=by rw [encStr_length];unfold Policy.cnt at h;omega
  have he:=encStr_each p.mx
  refine ok12.ct mo Try.func12 (by simp) rfl fun hok => ?_
  unfold ac12
  simp only [Policy.v_eq] at *
  repeat' first|assumption|first|refine s_opt1 ?_|refine s_opt0 ?_|refine s_optq1 ?_|refine s_optq0 ?_|(refine s_norm ?_;try simp only [wsN,wsI,rmv,rng,X.ev,lkp,peel,cond_true,cond_false,nbeq,Nat.reduceBEq,Nat.reduceSub,Nat.reduceAdd,Nat.zero_add,Nat.sub_zero,Nat.sub_self,List.length_cons,List.length_nil,List.length_append,List.cons_append,List.nil_append,List.append_nil])|(refine s_take fun K hK => ?_)|(refine s_cons (fun K hK => ?_) ?_)|exact s_tnil|refine s_br ?_|refine s_done ?_|refine s_seq fun K hK => ?_|refine s_region ?_|refine s_draw ?_|refine s_tree ?_|refine s_op fun K hK => ?_|refine s_opq fun K hK => ?_|refine s_ops ?_|refine s_endq ?_|simp only [go_sem,Int.reduceToNat,Int.reduceEq,Nat.reduceAdd,Nat.reduceBEq,Nat.reduceLeDiff,Nat.reduceLT,Int.reduceLT,Int.reduceLE,Int.reduceNeg,reduceCtorEq]|(first|(refine hK _ ?_;clear hK K)|(clear hK K;refine hK _ ?_;clear hK K)|(clear hK K;clear hK K;refine hK _ ?_;clear hK K))|refine And.intro ?_ ?_
  all_goals first|assumption|omega|(simp [go_sem,tids,A.tid,A.tid.go,List.cons_append,frzT,St.frz,A.sub,A.subL,O.sub,subT,subH,frzY,frzZ,Post,aret,evRs,RV.ev,tupA,A.Le,A.LeL,lkp,St.frzs,St.frz,A.ids,A.idsL,cond_true,cond_false,nbeq,nble,decide_true,decide_false,Nat.reduceLeDiff,Nat.reduceBEq,Nat.reduceAdd,beq_self_eq_true,true_and,and_true,true_implies,List.append_nil,List.nil_append,List.getElem?_cons_zero,List.getElem?_cons_succ,List.length_cons,List.length_nil,List.drop_zero,List.take_succ_cons,List.take_zero,and_self];done)|(simp [A.LeL];done)|(simp;omega)|skip
theorem drop1_ct (ps : List Policy) (now : Int) (h : ps.length + cntPs ps ≤ 1048576) : Ct Try.prog 5 [.d false (.sl (encPs ps)),.d false (.int .i64 now)] (.d false (.sl (encPs (keptP ps now)))):=by
  refine ok5.ct mo Try.func5 (by simp) rfl fun hok => ?_
  unfold ac5
  repeat' first|first|refine s_opt1 ?_|refine s_opt0 ?_|refine s_optq1 ?_|refine s_optq0 ?_|(refine s_norm ?_;try simp only [wsN,wsI,rmv,rng,X.ev,lkp,peel,cond_true,cond_false,nbeq,Nat.reduceBEq,Nat.reduceSub,Nat.reduceAdd,Nat.zero_add,Nat.sub_zero,Nat.sub_self,List.length_cons,List.length_nil,List.length_append,List.cons_append,List.nil_append,List.append_nil])|(refine s_take fun K hK => ?_)|(refine s_cons (fun K hK => ?_) ?_)|exact s_tnil|refine s_br ?_|refine s_done ?_|refine s_seq fun K hK => ?_|refine s_region ?_|refine s_draw ?_|refine s_tree ?_|refine s_op fun K hK => ?_|refine s_opq fun K hK => ?_|refine s_ops ?_|refine s_endq ?_|simp only [go_sem,Int.reduceToNat,Int.reduceEq,Nat.reduceAdd,Nat.reduceBEq,Nat.reduceLeDiff,Nat.reduceLT,Int.reduceLT,Int.reduceLE,Int.reduceNeg,reduceCtorEq]|(first|(refine hK _ ?_;clear hK K)|(clear hK K;refine hK _ ?_;clear hK K)|(clear hK K;clear hK K;refine hK _ ?_;clear hK K))|refine And.intro ?_ ?_
  all_goals first|(simp;done)|skip
  refine s_loop { i : Nat // i ≤ ps.length } (fun i => ⟨[(0,.d false (.sl (encPs ps))),(1,.d false (.int .i64 now)),(5,.osl 1),(6,.d true (.int .i64 i.1))],[.dead,.row false 34 4 (encPs (keptP (ps.take i.1) now))]⟩) (fun i => ps.length - i.1) ⟨0,Nat.zero_le _⟩ ?_ ?_
  · simp [StLe,leT,leH,A.Le,A.LeL,O.Le,lkp,freeT,freeH,A.free,A.freeL,cond_true,cond_false,nbeq,nble,nblt,decide_true,decide_false,Nat.reduceLT,Nat.reduceBEq,true_and,and_true,List.length_cons,List.length_nil,true_implies,and_self,Bool.and_true,Bool.true_and,Bool.and_self,encPs,keptP]
  · rintro ⟨i,hi⟩ K1 hK1
    simp only
    have hw : wrap64 ((i : Int) + 1) = ((i + 1 : Nat) : Int):=by rw [w64 (by omega) (by omega)];omega
    by_cases hlt : i < ps.length
    · have d1 : decide ((i : Int) < ps.length) = true:=decide_eq_true (by omega)
      have hget : ps[i]? = some ps[i]:=List.getElem?_eq_getElem hlt
      have hc:=l7Copy_ct ps[i] (by have:=cntPs_mem (List.getElem_mem hlt);omega)
      have hs:=keptP_succ ps now i hlt
      have hkl:=keptP_len ps now i
      have hkl2 : (encPs (keptP (ps.take i) now)).length ≤ 1048576:=by rw [encPs_length];omega
      have hke:=encPs_each (keptP (ps.take i) now)
      have hgd:=encPs_getD ps i _ hget
      simp only [Policy.v_eq] at hc
      have hfin:=fun σ' (h : StLe σ' ⟨[(0,.d false (.sl (encPs ps))),(1,.d false (.int .i64 now)),(5,.osl 1),(6,.d true (.int .i64 ((i + 1 : Nat) : Int)))],[.dead,.row false 34 4 (encPs (keptP (ps.take (i + 1)) now))]⟩) => hK1 σ' ⟨i + 1,hlt⟩ h (by simp;omega)
      rw [hs] at hfin
      have henc:=Policy.enc_eq ps[i]
      generalize ps[i] = p at *
      have hin : (0 : Int) ≤ (i : Int) ∧ (i : Int) < ps.length:=⟨by omega,by omega⟩
      by_cases hn : now ≤ p.til
      · have d2 : decide (now ≤ p.til) = true:=decide_eq_true hn
        rw [if_pos hn,show encPs (keptP (ps.take i) now ++ [p]) = encPs (keptP (ps.take i) now) ++ [p.enc] by simp [encPs],henc] at hfin
        clear hK1 hs
        generalize encPs (keptP (ps.take i) now) = kk at *
        repeat' first|first|refine s_opt1 ?_|refine s_opt0 ?_|refine s_optq1 ?_|refine s_optq0 ?_|(refine s_norm ?_;try simp only [wsN,wsI,rmv,rng,X.ev,lkp,peel,cond_true,cond_false,nbeq,Nat.reduceBEq,Nat.reduceSub,Nat.reduceAdd,Nat.zero_add,Nat.sub_zero,Nat.sub_self,List.length_cons,List.length_nil,List.length_append,List.cons_append,List.nil_append,List.append_nil])|(refine s_take fun K hK => ?_)|(refine s_cons (fun K hK => ?_) ?_)|exact s_tnil|refine s_br ?_|refine s_done ?_|refine s_seq fun K hK => ?_|refine s_region ?_|refine s_draw ?_|refine s_tree ?_|refine s_op fun K hK => ?_|refine s_opq fun K hK => ?_|refine s_ops ?_|refine s_endq ?_|simp only [go_sem,Int.reduceToNat,Int.reduceEq,Nat.reduceAdd,Nat.reduceBEq,Nat.reduceLeDiff,Nat.reduceLT,Int.reduceLT,Int.reduceLE,Int.reduceNeg,reduceCtorEq,d1,d2,hw,encPs_length,Int.toNat_natCast,hgd,henc]|(first|(refine hK _ ?_;clear hK K)|(clear hK K;refine hK _ ?_;clear hK K)|(clear hK K;clear hK K;refine hK _ ?_;clear hK K))|refine And.intro ?_ ?_|refine s_call hc ?_
        all_goals first|(refine hfin _ ?_;simp [StLe,leT,leH,A.Le,A.LeL,O.Le,lkp,freeT,freeH,A.free,A.freeL,cond_true,cond_false,nbeq,nble,nblt,decide_true,decide_false,Nat.reduceLT,Nat.reduceBEq,true_and,and_true,List.length_cons,List.length_nil,true_implies,and_self,Bool.and_true,Bool.true_and,Bool.and_self];done)|exact hin|exact hin.1|exact hin.2|assumption|omega|(simp;done)|(simp;omega)|(intro l hl;simp only [List.mem_singleton] at hl;subst hl;rfl)|skip
      · have d2 : decide (now ≤ p.til) = false:=decide_eq_false hn
        rw [if_neg hn,List.append_nil] at hfin
        clear hK1 hs
        generalize encPs (keptP (ps.take i) now) = kk at *
        repeat' first|first|refine s_opt1 ?_|refine s_opt0 ?_|refine s_optq1 ?_|refine s_optq0 ?_|(refine s_norm ?_;try simp only [wsN,wsI,rmv,rng,X.ev,lkp,peel,cond_true,cond_false,nbeq,Nat.reduceBEq,Nat.reduceSub,Nat.reduceAdd,Nat.zero_add,Nat.sub_zero,Nat.sub_self,List.length_cons,List.length_nil,List.length_append,List.cons_append,List.nil_append,List.append_nil])|(refine s_take fun K hK => ?_)|(refine s_cons (fun K hK => ?_) ?_)|exact s_tnil|refine s_br ?_|refine s_done ?_|refine s_seq fun K hK => ?_|refine s_region ?_|refine s_draw ?_|refine s_tree ?_|refine s_op fun K hK => ?_|refine s_opq fun K hK => ?_|refine s_ops ?_|refine s_endq ?_|simp only [go_sem,Int.reduceToNat,Int.reduceEq,Nat.reduceAdd,Nat.reduceBEq,Nat.reduceLeDiff,Nat.reduceLT,Int.reduceLT,Int.reduceLE,Int.reduceNeg,reduceCtorEq,d1,d2,hw,encPs_length,Int.toNat_natCast,hgd,henc]|(first|(refine hK _ ?_;clear hK K)|(clear hK K;refine hK _ ?_;clear hK K)|(clear hK K;clear hK K;refine hK _ ?_;clear hK K))|refine And.intro ?_ ?_
        all_goals first|(refine hfin _ ?_;simp [StLe,leT,leH,A.Le,A.LeL,O.Le,lkp,freeT,freeH,A.free,A.freeL,cond_true,cond_false,nbeq,nble,nblt,decide_true,decide_false,Nat.reduceLT,Nat.reduceBEq,true_and,and_true,List.length_cons,List.length_nil,true_implies,and_self,Bool.and_true,Bool.true_and,Bool.and_self];done)|exact hin|exact hin.1|exact hin.2|omega|(simp;done)|skip
    · have d1 : decide ((i : Int) < ps.length) = false:=decide_eq_false (by omega)
      have hie : i = ps.length:=by omega
      subst hie
      rw [List.take_length]
      clear hK1
      generalize keptP ps now = kk at *
      repeat' first|first|refine s_opt1 ?_|refine s_opt0 ?_|refine s_optq1 ?_|refine s_optq0 ?_|(refine s_norm ?_;try simp only [wsN,wsI,rmv,rng,X.ev,lkp,peel,cond_true,cond_false,nbeq,Nat.reduceBEq,Nat.reduceSub,Nat.reduceAdd,Nat.zero_add,Nat.sub_zero,Nat.sub_self,List.length_cons,List.length_nil,List.length_append,List.cons_append,List.nil_append,List.append_nil])|(refine s_take fun K hK => ?_)|(refine s_cons (fun K hK => ?_) ?_)|exact s_tnil|refine s_br ?_|refine s_done ?_|refine s_seq fun K hK => ?_|refine s_region ?_|refine s_draw ?_|refine s_tree ?_|refine s_op fun K hK => ?_|refine s_opq fun K hK => ?_|refine s_ops ?_|refine s_endq ?_|simp only [go_sem,Int.reduceToNat,Int.reduceEq,Nat.reduceAdd,Nat.reduceBEq,Nat.reduceLeDiff,Nat.reduceLT,Int.reduceLT,Int.reduceLE,Int.reduceNeg,reduceCtorEq,d1,encPs_length]|(first|(refine hK _ ?_;clear hK K)|(clear hK K;refine hK _ ?_;clear hK K)|(clear hK K;clear hK K;refine hK _ ?_;clear hK K))|refine And.intro ?_ ?_
      all_goals first|(simp [go_sem,tids,A.tid,A.tid.go,List.cons_append,frzT,St.frz,A.sub,A.subL,O.sub,subT,subH,frzY,frzZ,Post,aret,evRs,RV.ev,tupA,A.Le,A.LeL,lkp,St.frzs,St.frz,A.ids,A.idsL,cond_true,cond_false,nbeq,nble,decide_true,decide_false,Nat.reduceLeDiff,Nat.reduceBEq,Nat.reduceAdd,beq_self_eq_true,true_and,and_true,true_implies,List.append_nil,List.nil_append,List.getElem?_cons_zero,List.getElem?_cons_succ,List.length_cons,List.length_nil,List.drop_zero,List.take_succ_cons,List.take_zero,and_self];done)|(simp [go_sem,tids,A.tid,A.tid.go,List.cons_append,frzT,St.frz,A.sub,A.subL,O.sub,subT,subH,frzY,frzZ,Post,aret,evRs,RV.ev,tupA,A.Le,A.LeL,lkp,St.frzs,St.frz,A.ids,A.idsL,cond_true,cond_false,nbeq,nble,decide_true,decide_false,Nat.reduceLeDiff,Nat.reduceBEq,Nat.reduceAdd,beq_self_eq_true,true_and,and_true,true_implies,List.append_nil,List.nil_append,List.getElem?_cons_zero,List.getElem?_cons_succ,List.length_cons,List.length_nil,List.drop_zero,List.take_succ_cons,List.take_zero,and_self];done)|skip
/-! ### What is held -/
def kP (p : Policy) : Nat:=3 + p.mx.length
def kPs : List Policy → Nat
  | [] => 0
  | p :: ps => kP p + kPs ps
def markP (k : Int) (p : Policy) : Policy:=⟨mtext k,k + 1,markSs (k + 2) p.mx.length,k + 2 + p.mx.length⟩
def markPs (k : Int) : List Policy → List Policy
  | [] => []
  | p :: ps => markP k p :: markPs (k + kP p) ps
theorem markPs_length : ∀ (k : Int) (ps : List Policy),(markPs k ps).length = ps.length
  | _,[] => rfl
  | k,p :: ps => by simp [markPs,markPs_length]
theorem kPs_step : ∀ (ps : List Policy) (i : Nat) (h : i < ps.length),kPs (ps.take (i + 1)) = kPs (ps.take i) + kP ps[i] ∧ kPs (ps.take i) + kP ps[i] ≤ kPs ps
  | p :: ps,0,_ => by simp [kPs]
  | p :: ps,i + 1,h => by
    have:=kPs_step ps i (by simpa using h)
    simp only [List.take_succ_cons,kPs,List.getElem_cons_succ]
    omega
theorem markPs_get : ∀ (k : Int) (ps : List Policy) (i : Nat) (h : i < ps.length),(markPs k ps)[i]? = some (markP (k + kPs (ps.take i)) ps[i])
  | k,p :: ps,0,_ => by simp [markPs,kPs]
  | k,p :: ps,i + 1,h => by
    rw [markPs,List.getElem?_cons_succ,markPs_get (k + kP p) ps i (by simpa using h)]
    simp only [List.take_succ_cons,kPs,List.getElem_cons_succ]
    congr 2
    omega
theorem held1_ct (ps : List Policy) (k : Int) (h0 : 0 ≤ k) (h1 : k + kPs ps ≤ 4611686018427387904) : Ct Try.prog 10 [.d false (.sl (encPs (markPs k ps))),.d false (.int .i64 k)] (.d true (.int .i64 (k + kPs ps))):=by
  refine Ct.own ?_ rfl
  refine ok10.ct mo Try.func10 (by simp) rfl fun hok => ?_
  have hs : ps.length ≤ 140737488355328:=by simp only [A.OkL,A.Ok,D.Ok,encPs_length,markPs_length] at hok;exact hok.1.1
  unfold ac10
  repeat' first|first|refine s_opt1 ?_|refine s_opt0 ?_|refine s_optq1 ?_|refine s_optq0 ?_|(refine s_norm ?_;try simp only [wsN,wsI,rmv,rng,X.ev,lkp,peel,cond_true,cond_false,nbeq,Nat.reduceBEq,Nat.reduceSub,Nat.reduceAdd,Nat.zero_add,Nat.sub_zero,Nat.sub_self,List.length_cons,List.length_nil,List.length_append,List.cons_append,List.nil_append,List.append_nil])|(refine s_take fun K hK => ?_)|(refine s_cons (fun K hK => ?_) ?_)|exact s_tnil|refine s_br ?_|refine s_done ?_|refine s_seq fun K hK => ?_|refine s_region ?_|refine s_draw ?_|refine s_tree ?_|refine s_op fun K hK => ?_|refine s_opq fun K hK => ?_|refine s_ops ?_|refine s_endq ?_|simp only [go_sem,Int.reduceToNat,Int.reduceEq,Nat.reduceAdd,Nat.reduceBEq,Nat.reduceLeDiff,Nat.reduceLT,Int.reduceLT,Int.reduceLE,Int.reduceNeg,reduceCtorEq]|(first|(refine hK _ ?_;clear hK K)|(clear hK K;refine hK _ ?_;clear hK K)|(clear hK K;clear hK K;refine hK _ ?_;clear hK K))|refine And.intro ?_ ?_
  all_goals first|(simp;done)|skip
  refine s_loop { i : Nat // i ≤ ps.length } (fun i => ⟨[(0,.d false (.sl (encPs (markPs k ps)))),(1,.d false (.int .i64 (k + kPs (ps.take i.1)))),(5,.d true (.int .i64 i.1))],[]⟩) (fun i => ps.length - i.1) ⟨0,Nat.zero_le _⟩ ?_ ?_
  · simp [StLe,leT,leH,A.Le,A.LeL,O.Le,lkp,freeT,freeH,A.free,A.freeL,cond_true,cond_false,nbeq,nble,nblt,decide_true,decide_false,Nat.reduceLT,Nat.reduceBEq,true_and,and_true,List.length_cons,List.length_nil,true_implies,and_self,Bool.and_true,Bool.true_and,Bool.and_self,kPs]
  · rintro ⟨i,hi⟩ K1 hK1
    simp only
    have hlen : (encPs (markPs k ps)).length = ps.length:=by rw [encPs_length,markPs_length]
    by_cases hlt : i < ps.length
    · have hw : wrap64 ((i : Int) + 1) = ((i + 1 : Nat) : Int):=by rw [w64 (by omega) (by omega)];omega
      have d1 : decide ((i : Int) < ps.length) = true:=decide_eq_true (by omega)
      obtain ⟨hst,hle⟩:=kPs_step ps i hlt
      have hget:=markPs_get k ps i hlt
      have hgd:=encPs_getD _ i _ hget
      have hfin:=fun σ' (h : StLe σ' ⟨[(0,.d false (.sl (encPs (markPs k ps)))),(1,.d false (.int .i64 (k + kPs (ps.take (i + 1))))),(5,.d true (.int .i64 ((i + 1 : Nat) : Int)))],[]⟩) => hK1 σ' ⟨i + 1,hlt⟩ h (by simp;omega)
      rw [hst] at hfin
      obtain ⟨z,hz⟩ : ∃ z,k + (kPs (ps.take i) : Int) = z:=⟨_,rfl⟩
      have hz2 : k + ((kPs (ps.take i) + kP ps[i] : Nat) : Int) = z + 2 + ps[i].mx.length + 1:=by unfold kP;omega
      rw [hz2] at hfin
      rw [hz] at hget hgd
      rw [hz]
      have hzb : 0 ≤ z ∧ z + 3 + ps[i].mx.length ≤ 4611686018427387904:=by unfold kP at hle;omega
      rw [Policy.enc_eq] at hgd
      simp only [markP] at hgd
      have hin : (0 : Int) ≤ (i : Int) ∧ (i : Int) < ps.length:=⟨by omega,by omega⟩
      generalize hm : ps[i].mx.length = m at *
      have w1 : wrap64 (z + 1) = z + 1:=w64 (by omega) (by omega)
      have w2 : wrap64 (z + 1 + 1) = z + 2:=by rw [w64 (by omega) (by omega)];omega
      have w3 : wrap64 (z + 2 + m + 1) = z + 2 + m + 1:=w64 (by omega) (by omega)
      have d3 : decide (z + 2 + (m : Int) < 0) = false:=decide_eq_false (by omega)
      have c1:=markText_ct z (by omega)
      have c2:=heldStringS_ct m (z + 2) (by omega) (by omega)
      have d4 : decide (z + 1 = z + 1) = true:=decide_eq_true rfl
      have d5 : decide (z + 2 + (m : Int) = z + 2 + m) = true:=decide_eq_true rfl
      clear hK1 hget hst hle hz2 hz hok hzb hm
      generalize markSs (z + 2) m = ms at *
      generalize mtext z = mt at *
      generalize encPs (markPs k ps) = ee at *
      repeat' first|first|refine s_opt1 ?_|refine s_opt0 ?_|refine s_optq1 ?_|refine s_optq0 ?_|(refine s_norm ?_;try simp only [wsN,wsI,rmv,rng,X.ev,lkp,peel,cond_true,cond_false,nbeq,Nat.reduceBEq,Nat.reduceSub,Nat.reduceAdd,Nat.zero_add,Nat.sub_zero,Nat.sub_self,List.length_cons,List.length_nil,List.length_append,List.cons_append,List.nil_append,List.append_nil])|(refine s_take fun K hK => ?_)|(refine s_cons (fun K hK => ?_) ?_)|exact s_tnil|refine s_br ?_|refine s_done ?_|refine s_seq fun K hK => ?_|refine s_region ?_|refine s_draw ?_|refine s_tree ?_|refine s_op fun K hK => ?_|refine s_opq fun K hK => ?_|refine s_ops ?_|refine s_endq ?_|simp only [go_sem,Int.reduceToNat,Int.reduceEq,Nat.reduceAdd,Nat.reduceBEq,Nat.reduceLeDiff,Nat.reduceLT,Int.reduceLT,Int.reduceLE,Int.reduceNeg,reduceCtorEq,d1,hw,hlen,Int.toNat_natCast,hgd,w1,w2,w3,d3,d4,d5,beqS_refl,Bool.not_true,bne_self_eq_false]|(first|(refine hK _ ?_;clear hK K)|(clear hK K;refine hK _ ?_;clear hK K)|(clear hK K;clear hK K;refine hK _ ?_;clear hK K))|refine And.intro ?_ ?_|refine s_callq c1 rfl ?_|refine s_call c1 ?_|refine s_call c2 ?_
      all_goals first|(refine hfin _ ?_;simp [StLe,leT,leH,A.Le,A.LeL,O.Le,lkp,freeT,freeH,A.free,A.freeL,cond_true,cond_false,nbeq,nble,nblt,decide_true,decide_false,Nat.reduceLT,Nat.reduceBEq,true_and,and_true,List.length_cons,List.length_nil,true_implies,and_self,Bool.and_true,Bool.true_and,Bool.and_self];done)|exact hin|exact hin.1|exact hin.2|omega|(simp;done)|skip
    · have d1 : decide ((i : Int) < ps.length) = false:=decide_eq_false (by omega)
      have hie : i = ps.length:=by omega
      subst hie
      rw [List.take_length]
      clear hK1 hok
      generalize encPs (markPs k ps) = ee at *
      repeat' first|first|refine s_opt1 ?_|refine s_opt0 ?_|refine s_optq1 ?_|refine s_optq0 ?_|(refine s_norm ?_;try simp only [wsN,wsI,rmv,rng,X.ev,lkp,peel,cond_true,cond_false,nbeq,Nat.reduceBEq,Nat.reduceSub,Nat.reduceAdd,Nat.zero_add,Nat.sub_zero,Nat.sub_self,List.length_cons,List.length_nil,List.length_append,List.cons_append,List.nil_append,List.append_nil])|(refine s_take fun K hK => ?_)|(refine s_cons (fun K hK => ?_) ?_)|exact s_tnil|refine s_br ?_|refine s_done ?_|refine s_seq fun K hK => ?_|refine s_region ?_|refine s_draw ?_|refine s_tree ?_|refine s_op fun K hK => ?_|refine s_opq fun K hK => ?_|refine s_ops ?_|refine s_endq ?_|simp only [go_sem,Int.reduceToNat,Int.reduceEq,Nat.reduceAdd,Nat.reduceBEq,Nat.reduceLeDiff,Nat.reduceLT,Int.reduceLT,Int.reduceLE,Int.reduceNeg,reduceCtorEq,d1,hlen]|(first|(refine hK _ ?_;clear hK K)|(clear hK K;refine hK _ ?_;clear hK K)|(clear hK K;clear hK K;refine hK _ ?_;clear hK K))|refine And.intro ?_ ?_
      all_goals first|(simp [go_sem,tids,A.tid,A.tid.go,List.cons_append,frzT,St.frz,A.sub,A.subL,O.sub,subT,subH,frzY,frzZ,Post,aret,evRs,RV.ev,tupA,A.Le,A.LeL,lkp,St.frzs,St.frz,A.ids,A.idsL,cond_true,cond_false,nbeq,nble,decide_true,decide_false,Nat.reduceLeDiff,Nat.reduceBEq,Nat.reduceAdd,beq_self_eq_true,true_and,and_true,true_implies,List.append_nil,List.nil_append,List.getElem?_cons_zero,List.getElem?_cons_succ,List.length_cons,List.length_nil,List.drop_zero,List.take_succ_cons,List.take_zero,and_self];done)|(simp [go_sem,tids,A.tid,A.tid.go,List.cons_append,frzT,St.frz,A.sub,A.subL,O.sub,subT,subH,frzY,frzZ,Post,aret,evRs,RV.ev,tupA,A.Le,A.LeL,lkp,St.frzs,St.frz,A.ids,A.idsL,cond_true,cond_false,nbeq,nble,decide_true,decide_false,Nat.reduceLeDiff,Nat.reduceBEq,Nat.reduceAdd,beq_self_eq_true,true_and,and_true,true_implies,List.append_nil,List.nil_append,List.getElem?_cons_zero,List.getElem?_cons_succ,List.length_cons,List.length_nil,List.drop_zero,List.take_succ_cons,List.take_zero,and_self];done)|skip
end Go.Proofs.Ytockalkgjoaicaa
