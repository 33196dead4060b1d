/- What can be taken apart, by the reference. -/
import Derived.Test.YtlddcimpdkcgeaaDoorF27
set_option linter.unusedVariables false
set_option linter.unusedSimpArgs false
set_option maxRecDepth 20000
set_option maxHeartbeats 16000000
namespace Go.Proofs.YtlddcimpdkcgeaaDoor
open Go Go.RowKit Sym
attribute [local irreducible] awp aops aopsQ gop gopQ gopO gopOQ gopV gopT awpN awpT awpTs ACall after
attribute [local irreducible] partsT roundsN passN firstT firstN
theorem parts1_ct (ts : List Term) (hc : ∀ t,t ∈ ts → t.cnt ≤ 8388608) : Ct Tryd.prog 14 [.d false (.sl (encs ts))] (.d false (.sl (encs (partsT ts)))):=by
  refine ok14.ct mo Tryd.func14 (by simp) rfl fun hok => ?_
  have hs : ts.length ≤ 140737488355328:=by simp only [A.OkL,A.Ok,D.Ok,encs_length] at hok;exact hok.1.1
  unfold ac14
  have hlts:=encs_length ts
  generalize hpp : partsT ts = pp
  repeat' first|assumption|first|refine s_opt1 ?_|refine s_opt0 ?_|refine s_optq1 ?_|refine s_optq0 ?_|(refine s_norm ?_;try simp only [wsN,wsI,rmv,rng,X.ev,lkp,peel,cond_true,cond_false,nbeq,Nat.reduceBEq,Nat.reduceSub,Nat.reduceAdd,Nat.zero_add,Nat.sub_zero,Nat.sub_self,List.length_cons,List.length_nil,List.length_append,List.cons_append,List.nil_append,List.append_nil])|(refine s_take fun K hK => ?_)|(refine s_cons (fun K hK => ?_) ?_)|exact s_tnil|refine s_br ?_|refine s_done ?_|refine s_seq fun K hK => ?_|refine s_region ?_|refine s_draw ?_|refine s_tree ?_|refine s_op fun K hK => ?_|refine s_opq fun K hK => ?_|refine s_ops ?_|refine s_endq ?_|simp only [go_sem,Int.reduceToNat,Int.reduceEq,Nat.reduceAdd,Nat.reduceBEq,Nat.reduceLeDiff,Nat.reduceLT,Int.reduceLT,Int.reduceLE,Int.reduceNeg,reduceCtorEq,hlts]|(first|(refine hK _ ?_;clear hK K)|(clear hK K;refine hK _ ?_;clear hK K)|(clear hK K;clear hK K;refine hK _ ?_;clear hK K))|refine And.intro ?_ ?_
  all_goals first|(simp;done)|skip
  refine s_loop { i : Nat // i ≤ ts.length } (fun i => ⟨[(0,.d false (.sl (encs ts))),(3,.osl 1),(4,.d true (.int .i64 (i.1 : Int)))],[.dead,spR (firstN ts i.1)]⟩) (fun i => ts.length - i.1) ⟨0,Nat.zero_le _⟩ ?_ ?_
  · simp [StLe,leT,leH,A.Le,A.LeL,O.Le,lkp,freeT,freeH,A.free,A.freeL,cond_true,cond_false,nbeq,nble,nblt,decide_true,decide_false,Nat.reduceLT,Nat.reduceBEq,true_and,and_true,List.length_cons,List.length_nil,true_implies,and_self,Bool.and_true,Bool.true_and,Bool.and_self,firstN_zero,encs]
  rintro ⟨i,hi⟩ K1 hK1
  have hw : wrap64 ((i : Int) + 1) = ((i + 1 : Nat) : Int):=by rw [w64 (by omega) (by omega)];omega
  simp only
  have hfl:=firstN_len ts i
  by_cases hlt : i < ts.length
  · have d1 : decide ((i : Int) < ts.length) = true:=decide_eq_true (by omega)
    have hget : ts[i]? = some ts[i]:=List.getElem?_eq_getElem hlt
    have hto:=termOk1_ct ts[i]
    have hcnt:=hc _ (List.getElem_mem hlt)
    have hsu:=firstN_succ ts i hlt
    simp only [Term.v_eq] at hto
    cases ho : okT ts[i] with
    | true =>
      rw [ho,cond_true] at hsu
      rw [ho] at hto
      have hadd:=add1_ct (firstN ts i) ts[i] hfl hcnt
      simp only [Term.v_eq] at hadd
      repeat' first|assumption|first|refine s_opt1 ?_|refine s_opt0 ?_|refine s_optq1 ?_|refine s_optq0 ?_|(refine s_norm ?_;try simp only [wsN,wsI,rmv,rng,X.ev,lkp,peel,cond_true,cond_false,nbeq,Nat.reduceBEq,Nat.reduceSub,Nat.reduceAdd,Nat.zero_add,Nat.sub_zero,Nat.sub_self,List.length_cons,List.length_nil,List.length_append,List.cons_append,List.nil_append,List.append_nil])|(refine s_take fun K hK => ?_)|(refine s_cons (fun K hK => ?_) ?_)|exact s_tnil|refine s_br ?_|refine s_done ?_|refine s_seq fun K hK => ?_|refine s_region ?_|refine s_draw ?_|refine s_tree ?_|refine s_op fun K hK => ?_|refine s_opq fun K hK => ?_|refine s_ops ?_|refine s_endq ?_|simp only [go_sem,Int.reduceToNat,Int.reduceEq,Nat.reduceAdd,Nat.reduceBEq,Nat.reduceLeDiff,Nat.reduceLT,Int.reduceLT,Int.reduceLE,Int.reduceNeg,reduceCtorEq,d1,hw,hlts,Int.toNat_natCast,encs_getD ts i _ hget,Term.enc_eq]|(first|(refine hK _ ?_;clear hK K)|(clear hK K;refine hK _ ?_;clear hK K)|(clear hK K;clear hK K;refine hK _ ?_;clear hK K))|refine And.intro ?_ ?_|refine s_call hto ?_|refine s_callh [] [1] hadd rfl rfl (by first|trivial|exact ⟨rfl,trivial⟩) (by decide) rfl (by first|exact ⟨rfl,trivial⟩|simp [allK,mkB,inL]) ?_
      all_goals first|(show ∀ _ _,_ → _;skip)|(simp;done)|omega|skip
      rintro r hs ⟨rfl,rfl⟩
      repeat' first|assumption|first|refine s_opt1 ?_|refine s_opt0 ?_|refine s_optq1 ?_|refine s_optq0 ?_|(refine s_norm ?_;try simp only [wsN,wsI,rmv,rng,X.ev,lkp,peel,cond_true,cond_false,nbeq,Nat.reduceBEq,Nat.reduceSub,Nat.reduceAdd,Nat.zero_add,Nat.sub_zero,Nat.sub_self,List.length_cons,List.length_nil,List.length_append,List.cons_append,List.nil_append,List.append_nil])|(refine s_take fun K hK => ?_)|(refine s_cons (fun K hK => ?_) ?_)|exact s_tnil|refine s_br ?_|refine s_done ?_|refine s_seq fun K hK => ?_|refine s_region ?_|refine s_draw ?_|refine s_tree ?_|refine s_op fun K hK => ?_|refine s_opq fun K hK => ?_|refine s_ops ?_|refine s_endq ?_|simp only [go_sem,Int.reduceToNat,Int.reduceEq,Nat.reduceAdd,Nat.reduceBEq,Nat.reduceLeDiff,Nat.reduceLT,Int.reduceLT,Int.reduceLE,Int.reduceNeg,reduceCtorEq,d1,hw,hlts]|(first|(refine hK _ ?_;clear hK K)|(clear hK K;refine hK _ ?_;clear hK K)|(clear hK K;clear hK K;refine hK _ ?_;clear hK K))|refine And.intro ?_ ?_
      refine hK1 _ ⟨i + 1,hlt⟩ ?_ (by simp;omega)
      simp [StLe,leT,leH,A.Le,A.LeL,O.Le,lkp,freeT,freeH,A.free,A.freeL,cond_true,cond_false,nbeq,nble,nblt,decide_true,decide_false,Nat.reduceLT,Nat.reduceBEq,true_and,and_true,List.length_cons,List.length_nil,true_implies,and_self,Bool.and_true,Bool.true_and,Bool.and_self,hsu]
    | false =>
      rw [ho,cond_false] at hsu
      rw [ho] at hto
      repeat' first|assumption|first|refine s_opt1 ?_|refine s_opt0 ?_|refine s_optq1 ?_|refine s_optq0 ?_|(refine s_norm ?_;try simp only [wsN,wsI,rmv,rng,X.ev,lkp,peel,cond_true,cond_false,nbeq,Nat.reduceBEq,Nat.reduceSub,Nat.reduceAdd,Nat.zero_add,Nat.sub_zero,Nat.sub_self,List.length_cons,List.length_nil,List.length_append,List.cons_append,List.nil_append,List.append_nil])|(refine s_take fun K hK => ?_)|(refine s_cons (fun K hK => ?_) ?_)|exact s_tnil|refine s_br ?_|refine s_done ?_|refine s_seq fun K hK => ?_|refine s_region ?_|refine s_draw ?_|refine s_tree ?_|refine s_op fun K hK => ?_|refine s_opq fun K hK => ?_|refine s_ops ?_|refine s_endq ?_|simp only [go_sem,Int.reduceToNat,Int.reduceEq,Nat.reduceAdd,Nat.reduceBEq,Nat.reduceLeDiff,Nat.reduceLT,Int.reduceLT,Int.reduceLE,Int.reduceNeg,reduceCtorEq,d1,hw,hlts,Int.toNat_natCast,encs_getD ts i _ hget,Term.enc_eq]|(first|(refine hK _ ?_;clear hK K)|(clear hK K;refine hK _ ?_;clear hK K)|(clear hK K;clear hK K;refine hK _ ?_;clear hK K))|refine And.intro ?_ ?_|refine s_call hto ?_
      all_goals first|(simp;done)|omega|skip
      refine hK1 _ ⟨i + 1,hlt⟩ ?_ (by simp;omega)
      simp [StLe,leT,leH,A.Le,A.LeL,O.Le,lkp,freeT,freeH,A.free,A.freeL,cond_true,cond_false,nbeq,nble,nblt,decide_true,decide_false,Nat.reduceLT,Nat.reduceBEq,true_and,and_true,List.length_cons,List.length_nil,true_implies,and_self,Bool.and_true,Bool.true_and,Bool.and_self,hsu]
  · have d1 : decide ((i : Int) < ts.length) = false:=decide_eq_false (by omega)
    have : i = ts.length:=by omega
    subst this
    have hr:=rnd_first hc
    clear hK1
    repeat' first|assumption|first|refine s_opt1 ?_|refine s_opt0 ?_|refine s_optq1 ?_|refine s_optq0 ?_|(refine s_norm ?_;try simp only [wsN,wsI,rmv,rng,X.ev,lkp,peel,cond_true,cond_false,nbeq,Nat.reduceBEq,Nat.reduceSub,Nat.reduceAdd,Nat.zero_add,Nat.sub_zero,Nat.sub_self,List.length_cons,List.length_nil,List.length_append,List.cons_append,List.nil_append,List.append_nil])|(refine s_take fun K hK => ?_)|(refine s_cons (fun K hK => ?_) ?_)|exact s_tnil|refine s_br ?_|refine s_done ?_|refine s_seq fun K hK => ?_|refine s_region ?_|refine s_draw ?_|refine s_tree ?_|refine s_op fun K hK => ?_|refine s_opq fun K hK => ?_|refine s_ops ?_|refine s_endq ?_|simp only [go_sem,Int.reduceToNat,Int.reduceEq,Nat.reduceAdd,Nat.reduceBEq,Nat.reduceLeDiff,Nat.reduceLT,Int.reduceLT,Int.reduceLE,Int.reduceNeg,reduceCtorEq,d1,hlts]|(first|(refine hK _ ?_;clear hK K)|(clear hK K;refine hK _ ?_;clear hK K)|(clear hK K;clear hK K;refine hK _ ?_;clear hK K))|refine And.intro ?_ ?_
    rw [firstN_end]
    refine s_loop (Option { p : List Term × Nat // Rnd ts p.1 p.2 }) (fun o => match o with
      | some p => ⟨[(3,.osl 1),(5,.d true (.bool true))],[.dead,spR p.1.1]⟩
      | none => ⟨[(3,.osl 1),(5,.d true (.bool false))],[.dead,spR pp]⟩)
      (fun o => match o with|some p => p.1.2 + 1|none => 0) (some ⟨(firstT ts,301),hr⟩) ?_ ?_
    · simp [StLe,leT,leH,A.Le,A.LeL,O.Le,lkp,freeT,freeH,A.free,A.freeL,cond_true,cond_false,nbeq,nble,nblt,decide_true,decide_false,Nat.reduceLT,Nat.reduceBEq,true_and,and_true,List.length_cons,List.length_nil,true_implies,and_self,Bool.and_true,Bool.true_and,Bool.and_self]
    rintro (_|⟨⟨l0,fu⟩,hrn⟩) K2 hK2
    · clear hK2 hr
      simp only
      repeat' first|first|refine s_opt1 ?_|refine s_opt0 ?_|refine s_optq1 ?_|refine s_optq0 ?_|(refine s_norm ?_;try simp only [wsN,wsI,rmv,rng,X.ev,lkp,peel,cond_true,cond_false,nbeq,Nat.reduceBEq,Nat.reduceSub,Nat.reduceAdd,Nat.zero_add,Nat.sub_zero,Nat.sub_self,List.length_cons,List.length_nil,List.length_append,List.cons_append,List.nil_append,List.append_nil])|(refine s_take fun K hK => ?_)|(refine s_cons (fun K hK => ?_) ?_)|exact s_tnil|refine s_br ?_|refine s_done ?_|refine s_seq fun K hK => ?_|refine s_region ?_|refine s_draw ?_|refine s_tree ?_|refine s_op fun K hK => ?_|refine s_opq fun K hK => ?_|refine s_ops ?_|refine s_endq ?_|simp only [go_sem,Int.reduceToNat,Int.reduceEq,Nat.reduceAdd,Nat.reduceBEq,Nat.reduceLeDiff,Nat.reduceLT,Int.reduceLT,Int.reduceLE,Int.reduceNeg,reduceCtorEq]|(first|(refine hK _ ?_;clear hK K)|(clear hK K;refine hK _ ?_;clear hK K)|(clear hK K;clear hK K;refine hK _ ?_;clear hK K))|refine And.intro ?_ ?_
      all_goals first|(simp [go_sem,tids,A.tid,A.tid.go,List.cons_append,frzT,St.frz,A.sub,A.subL,O.sub,subT,subH,frzY,frzZ,Post,aret,evRs,RV.ev,tupA,A.Le,A.LeL,lkp,St.frzs,St.frz,A.ids,A.idsL,cond_true,cond_false,nbeq,nble,decide_true,decide_false,Nat.reduceLeDiff,Nat.reduceBEq,Nat.reduceAdd,beq_self_eq_true,true_and,and_true,true_implies,List.append_nil,List.nil_append,List.getElem?_cons_zero,List.getElem?_cons_succ,List.length_cons,List.length_nil,List.drop_zero,List.take_succ_cons,List.take_zero,and_self];done)|skip
    · have hrn' : Rnd ts l0 fu:=hrn
      obtain ⟨fu,rfl⟩:=rnd_pos hrn'
      have hl0:=encs_length l0
      simp only
      repeat' first|assumption|first|refine s_opt1 ?_|refine s_opt0 ?_|refine s_optq1 ?_|refine s_optq0 ?_|(refine s_norm ?_;try simp only [wsN,wsI,rmv,rng,X.ev,lkp,peel,cond_true,cond_false,nbeq,Nat.reduceBEq,Nat.reduceSub,Nat.reduceAdd,Nat.zero_add,Nat.sub_zero,Nat.sub_self,List.length_cons,List.length_nil,List.length_append,List.cons_append,List.nil_append,List.append_nil])|(refine s_take fun K hK => ?_)|(refine s_cons (fun K hK => ?_) ?_)|exact s_tnil|refine s_br ?_|refine s_done ?_|refine s_seq fun K hK => ?_|refine s_region ?_|refine s_draw ?_|refine s_tree ?_|refine s_op fun K hK => ?_|refine s_opq fun K hK => ?_|refine s_ops ?_|refine s_endq ?_|simp only [go_sem,Int.reduceToNat,Int.reduceEq,Nat.reduceAdd,Nat.reduceBEq,Nat.reduceLeDiff,Nat.reduceLT,Int.reduceLT,Int.reduceLE,Int.reduceNeg,reduceCtorEq,hl0]|(first|(refine hK _ ?_;clear hK K)|(clear hK K;refine hK _ ?_;clear hK K)|(clear hK K;clear hK K;refine hK _ ?_;clear hK K))|refine And.intro ?_ ?_
      refine s_loop { p : List Term × Nat × Nat // Pas l0 p.1 p.2.1 p.2.2 } (fun p => ⟨[(3,.osl 1),(6,.d true (.int .i64 l0.length)),(7,.d true (.int .i64 (p.1.2.2 : Int)))],[.dead,spR p.1.1]⟩)
        (fun p => p.1.2.1) ⟨(l0,301,0),pas_first hrn'.2.2.1 hrn'.2.2.2⟩ ?_ ?_
      · simp [StLe,leT,leH,A.Le,A.LeL,O.Le,lkp,freeT,freeH,A.free,A.freeL,cond_true,cond_false,nbeq,nble,nblt,decide_true,decide_false,Nat.reduceLT,Nat.reduceBEq,true_and,and_true,List.length_cons,List.length_nil,true_implies,and_self,Bool.and_true,Bool.true_and,Bool.and_self]
      rintro ⟨⟨l1,k,m⟩,hpas⟩ K4 hK4
      have hpas' : Pas l0 l1 k m:=hpas
      simp only
      have hl1:=encs_length l1
      by_cases hm : m < l1.length
      · obtain ⟨k,rfl⟩:=pas_pos hpas' hm
        have dm : decide ((m : Int) < l1.length) = true:=decide_eq_true (by omega)
        have hget : l1[m]? = some l1[m]:=List.getElem?_eq_getElem hm
        have hg:=hpas'.2.2.2.2 _ (List.getElem_mem hm)
        have hm300:=hpas'.2.2.2.1
        have hwm : wrap64 ((m : Int) + 1) = ((m + 1 : Nat) : Int):=by rw [w64 (by omega) (by omega)];omega
        have hnx:=pas_next hpas' hm
        have hgd:=encs_getD l1 m _ hget
        generalize l1[m] = t at *
        rw [Term.enc_eq] at hgd
        have hkg : ∀ x,x ∈ t.kids → gd x:=fun x hx => gd_kid hg hx
        by_cases h3 : t.op = 3
        · have d3 : decide (t.op = 3) = true:=decide_eq_true h3
          obtain ⟨x,y,hk⟩:=two_kids hg.1.1 (by rw [h3];rfl)
          have ha : addsT l1 (apartT l1 t) = addT (addT l1 x) y:=by unfold apartT;rw [if_pos h3,hk];rfl
          rw [ha] at hnx
          rw [hk] at hgd hkg
          have hx:=add1_ct l1 x hm300 (hkg x (by simp)).2
          have hy:=add1_ct (addT l1 x) y ((addT_len l1 x).2.2 hm300) (hkg y (by simp)).2
          simp only [Term.v_eq,encs] at hx hy hgd
          repeat' first|assumption|first|refine s_opt1 ?_|refine s_opt0 ?_|refine s_optq1 ?_|refine s_optq0 ?_|(refine s_norm ?_;try simp only [wsN,wsI,rmv,rng,X.ev,lkp,peel,cond_true,cond_false,nbeq,Nat.reduceBEq,Nat.reduceSub,Nat.reduceAdd,Nat.zero_add,Nat.sub_zero,Nat.sub_self,List.length_cons,List.length_nil,List.length_append,List.cons_append,List.nil_append,List.append_nil])|(refine s_take fun K hK => ?_)|(refine s_cons (fun K hK => ?_) ?_)|exact s_tnil|refine s_br ?_|refine s_done ?_|refine s_seq fun K hK => ?_|refine s_region ?_|refine s_draw ?_|refine s_tree ?_|refine s_op fun K hK => ?_|refine s_opq fun K hK => ?_|refine s_ops ?_|refine s_endq ?_|simp only [go_sem,Int.reduceToNat,Int.reduceEq,Nat.reduceAdd,Nat.reduceBEq,Nat.reduceLeDiff,Nat.reduceLT,Int.reduceLT,Int.reduceLE,Int.reduceNeg,reduceCtorEq,dm,d3,hl1,Int.toNat_natCast,hgd,encs,Term.enc_eq,List.getD_cons_zero,List.getD_cons_succ]|(first|(refine hK _ ?_;clear hK K)|(clear hK K;refine hK _ ?_;clear hK K)|(clear hK K;clear hK K;refine hK _ ?_;clear hK K))|refine And.intro ?_ ?_|refine s_callh [] [1] hx rfl rfl (by first|trivial|exact ⟨rfl,trivial⟩) (by decide) rfl (by first|exact ⟨rfl,trivial⟩|simp [allK,mkB,inL]) ?_
          all_goals first|(show ∀ _ _,_ → _;skip)|(simp;done)|omega|skip
          rintro r hs ⟨rfl,rfl⟩
          repeat' first|assumption|first|refine s_opt1 ?_|refine s_opt0 ?_|refine s_optq1 ?_|refine s_optq0 ?_|(refine s_norm ?_;try simp only [wsN,wsI,rmv,rng,X.ev,lkp,peel,cond_true,cond_false,nbeq,Nat.reduceBEq,Nat.reduceSub,Nat.reduceAdd,Nat.zero_add,Nat.sub_zero,Nat.sub_self,List.length_cons,List.length_nil,List.length_append,List.cons_append,List.nil_append,List.append_nil])|(refine s_take fun K hK => ?_)|(refine s_cons (fun K hK => ?_) ?_)|exact s_tnil|refine s_br ?_|refine s_done ?_|refine s_seq fun K hK => ?_|refine s_region ?_|refine s_draw ?_|refine s_tree ?_|refine s_op fun K hK => ?_|refine s_opq fun K hK => ?_|refine s_ops ?_|refine s_endq ?_|simp only [go_sem,Int.reduceToNat,Int.reduceEq,Nat.reduceAdd,Nat.reduceBEq,Nat.reduceLeDiff,Nat.reduceLT,Int.reduceLT,Int.reduceLE,Int.reduceNeg,reduceCtorEq,dm,d3]|(first|(refine hK _ ?_;clear hK K)|(clear hK K;refine hK _ ?_;clear hK K)|(clear hK K;clear hK K;refine hK _ ?_;clear hK K))|refine And.intro ?_ ?_|refine s_callh [] [1] hy rfl rfl (by first|trivial|exact ⟨rfl,trivial⟩) (by decide) rfl (by first|exact ⟨rfl,trivial⟩|simp [allK,mkB,inL]) ?_
          all_goals first|(show ∀ _ _,_ → _;skip)|(simp;done)|omega|skip
          rintro r hs ⟨rfl,rfl⟩
          repeat' first|assumption|first|refine s_opt1 ?_|refine s_opt0 ?_|refine s_optq1 ?_|refine s_optq0 ?_|(refine s_norm ?_;try simp only [wsN,wsI,rmv,rng,X.ev,lkp,peel,cond_true,cond_false,nbeq,Nat.reduceBEq,Nat.reduceSub,Nat.reduceAdd,Nat.zero_add,Nat.sub_zero,Nat.sub_self,List.length_cons,List.length_nil,List.length_append,List.cons_append,List.nil_append,List.append_nil])|(refine s_take fun K hK => ?_)|(refine s_cons (fun K hK => ?_) ?_)|exact s_tnil|refine s_br ?_|refine s_done ?_|refine s_seq fun K hK => ?_|refine s_region ?_|refine s_draw ?_|refine s_tree ?_|refine s_op fun K hK => ?_|refine s_opq fun K hK => ?_|refine s_ops ?_|refine s_endq ?_|simp only [go_sem,Int.reduceToNat,Int.reduceEq,Nat.reduceAdd,Nat.reduceBEq,Nat.reduceLeDiff,Nat.reduceLT,Int.reduceLT,Int.reduceLE,Int.reduceNeg,reduceCtorEq,dm,d3,hwm]|(first|(refine hK _ ?_;clear hK K)|(clear hK K;refine hK _ ?_;clear hK K)|(clear hK K;clear hK K;refine hK _ ?_;clear hK K))|refine And.intro ?_ ?_
          all_goals first|(refine hK4 _ ⟨(addT (addT l1 x) y,k,m + 1),hnx⟩ ?_ (by simp);simp [StLe,leT,leH,A.Le,A.LeL,O.Le,lkp,freeT,freeH,A.free,A.freeL,cond_true,cond_false,nbeq,nble,nblt,decide_true,decide_false,Nat.reduceLT,Nat.reduceBEq,true_and,and_true,List.length_cons,List.length_nil,true_implies,and_self,Bool.and_true,Bool.true_and,Bool.and_self];done)|(simp;done)|omega|skip
        · have d3 : decide (t.op = 3) = false:=decide_eq_false h3
          by_cases h8 : t.op = 8
          · have d8 : decide (t.op = 8) = true:=decide_eq_true h8
            obtain ⟨x,y,hk⟩:=two_kids hg.1.1 (by rw [h8];rfl)
            have ha : addsT l1 (apartT l1 t) = addT l1 y:=by unfold apartT;rw [if_neg h3,if_pos h8,hk];rfl
            rw [ha] at hnx
            rw [hk] at hgd hkg
            have hy:=add1_ct l1 y hm300 (hkg y (by simp)).2
            simp only [Term.v_eq,encs] at hy hgd
            repeat' first|assumption|first|refine s_opt1 ?_|refine s_opt0 ?_|refine s_optq1 ?_|refine s_optq0 ?_|(refine s_norm ?_;try simp only [wsN,wsI,rmv,rng,X.ev,lkp,peel,cond_true,cond_false,nbeq,Nat.reduceBEq,Nat.reduceSub,Nat.reduceAdd,Nat.zero_add,Nat.sub_zero,Nat.sub_self,List.length_cons,List.length_nil,List.length_append,List.cons_append,List.nil_append,List.append_nil])|(refine s_take fun K hK => ?_)|(refine s_cons (fun K hK => ?_) ?_)|exact s_tnil|refine s_br ?_|refine s_done ?_|refine s_seq fun K hK => ?_|refine s_region ?_|refine s_draw ?_|refine s_tree ?_|refine s_op fun K hK => ?_|refine s_opq fun K hK => ?_|refine s_ops ?_|refine s_endq ?_|simp only [go_sem,Int.reduceToNat,Int.reduceEq,Nat.reduceAdd,Nat.reduceBEq,Nat.reduceLeDiff,Nat.reduceLT,Int.reduceLT,Int.reduceLE,Int.reduceNeg,reduceCtorEq,dm,d3,d8,hl1,Int.toNat_natCast,hgd,encs,Term.enc_eq,List.getD_cons_zero,List.getD_cons_succ]|(first|(refine hK _ ?_;clear hK K)|(clear hK K;refine hK _ ?_;clear hK K)|(clear hK K;clear hK K;refine hK _ ?_;clear hK K))|refine And.intro ?_ ?_|refine s_callh [] [1] hy rfl rfl (by first|trivial|exact ⟨rfl,trivial⟩) (by decide) rfl (by first|exact ⟨rfl,trivial⟩|simp [allK,mkB,inL]) ?_
            all_goals first|(show ∀ _ _,_ → _;skip)|(simp;done)|omega|skip
            rintro r hs ⟨rfl,rfl⟩
            repeat' first|assumption|first|refine s_opt1 ?_|refine s_opt0 ?_|refine s_optq1 ?_|refine s_optq0 ?_|(refine s_norm ?_;try simp only [wsN,wsI,rmv,rng,X.ev,lkp,peel,cond_true,cond_false,nbeq,Nat.reduceBEq,Nat.reduceSub,Nat.reduceAdd,Nat.zero_add,Nat.sub_zero,Nat.sub_self,List.length_cons,List.length_nil,List.length_append,List.cons_append,List.nil_append,List.append_nil])|(refine s_take fun K hK => ?_)|(refine s_cons (fun K hK => ?_) ?_)|exact s_tnil|refine s_br ?_|refine s_done ?_|refine s_seq fun K hK => ?_|refine s_region ?_|refine s_draw ?_|refine s_tree ?_|refine s_op fun K hK => ?_|refine s_opq fun K hK => ?_|refine s_ops ?_|refine s_endq ?_|simp only [go_sem,Int.reduceToNat,Int.reduceEq,Nat.reduceAdd,Nat.reduceBEq,Nat.reduceLeDiff,Nat.reduceLT,Int.reduceLT,Int.reduceLE,Int.reduceNeg,reduceCtorEq,dm,d3,hwm]|(first|(refine hK _ ?_;clear hK K)|(clear hK K;refine hK _ ?_;clear hK K)|(clear hK K;clear hK K;refine hK _ ?_;clear hK K))|refine And.intro ?_ ?_
            all_goals first|(refine hK4 _ ⟨(addT l1 y,k,m + 1),hnx⟩ ?_ (by simp);simp [StLe,leT,leH,A.Le,A.LeL,O.Le,lkp,freeT,freeH,A.free,A.freeL,cond_true,cond_false,nbeq,nble,nblt,decide_true,decide_false,Nat.reduceLT,Nat.reduceBEq,true_and,and_true,List.length_cons,List.length_nil,true_implies,and_self,Bool.and_true,Bool.true_and,Bool.and_self];done)|(simp;done)|omega|skip
          · have d8 : decide (t.op = 8) = false:=decide_eq_false h8
            by_cases h7 : t.op = 7
            · have d7 : decide (t.op = 7) = true:=decide_eq_true h7
              obtain ⟨x,y,hk⟩:=two_kids hg.1.1 (by rw [h7];rfl)
              have hgx:=hkg x (by rw [hk];simp)
              have hmb : madeB l1 x = madeN l1 x.nods x:=by unfold madeB;rw [fine_ok hgx.1];rfl
              have ha : addsT l1 (apartT l1 t) = bif madeN l1 x.nods x then addT l1 y else l1:=by
                unfold apartT;rw [if_neg h3,if_neg h8,if_pos h7,hk,← hmb]
                simp only
                cases madeB l1 x <;> rfl
              rw [ha] at hnx
              rw [hk] at hgd hkg
              have hy:=add1_ct l1 y hm300 (hkg y (by simp)).2
              have hmx:=made1_ct l1 x.nods x hgx.1.1 (Nat.le_refl _)
              simp only [Term.v_eq,encs] at hy hgd hmx
              cases hmm : madeN l1 x.nods x with
              | true =>
                rw [hmm] at hmx hnx
                rw [cond_true] at hnx
                repeat' first|assumption|first|refine s_opt1 ?_|refine s_opt0 ?_|refine s_optq1 ?_|refine s_optq0 ?_|(refine s_norm ?_;try simp only [wsN,wsI,rmv,rng,X.ev,lkp,peel,cond_true,cond_false,nbeq,Nat.reduceBEq,Nat.reduceSub,Nat.reduceAdd,Nat.zero_add,Nat.sub_zero,Nat.sub_self,List.length_cons,List.length_nil,List.length_append,List.cons_append,List.nil_append,List.append_nil])|(refine s_take fun K hK => ?_)|(refine s_cons (fun K hK => ?_) ?_)|exact s_tnil|refine s_br ?_|refine s_done ?_|refine s_seq fun K hK => ?_|refine s_region ?_|refine s_draw ?_|refine s_tree ?_|refine s_op fun K hK => ?_|refine s_opq fun K hK => ?_|refine s_ops ?_|refine s_endq ?_|simp only [go_sem,Int.reduceToNat,Int.reduceEq,Nat.reduceAdd,Nat.reduceBEq,Nat.reduceLeDiff,Nat.reduceLT,Int.reduceLT,Int.reduceLE,Int.reduceNeg,reduceCtorEq,dm,d3,d8,d7,hl1,Int.toNat_natCast,hgd,encs,Term.enc_eq,List.getD_cons_zero,List.getD_cons_succ]|(first|(refine hK _ ?_;clear hK K)|(clear hK K;refine hK _ ?_;clear hK K)|(clear hK K;clear hK K;refine hK _ ?_;clear hK K))|refine And.intro ?_ ?_|refine s_callb hmx ?_|refine s_callh [] [1] hy rfl rfl (by first|trivial|exact ⟨rfl,trivial⟩) (by decide) rfl (by first|exact ⟨rfl,trivial⟩|simp [allK,mkB,inL]) ?_
                all_goals first|(show ∀ _ _,_ → _;skip)|(simp;done)|omega|skip
                rintro r hs ⟨rfl,rfl⟩
                repeat' first|assumption|first|refine s_opt1 ?_|refine s_opt0 ?_|refine s_optq1 ?_|refine s_optq0 ?_|(refine s_norm ?_;try simp only [wsN,wsI,rmv,rng,X.ev,lkp,peel,cond_true,cond_false,nbeq,Nat.reduceBEq,Nat.reduceSub,Nat.reduceAdd,Nat.zero_add,Nat.sub_zero,Nat.sub_self,List.length_cons,List.length_nil,List.length_append,List.cons_append,List.nil_append,List.append_nil])|(refine s_take fun K hK => ?_)|(refine s_cons (fun K hK => ?_) ?_)|exact s_tnil|refine s_br ?_|refine s_done ?_|refine s_seq fun K hK => ?_|refine s_region ?_|refine s_draw ?_|refine s_tree ?_|refine s_op fun K hK => ?_|refine s_opq fun K hK => ?_|refine s_ops ?_|refine s_endq ?_|simp only [go_sem,Int.reduceToNat,Int.reduceEq,Nat.reduceAdd,Nat.reduceBEq,Nat.reduceLeDiff,Nat.reduceLT,Int.reduceLT,Int.reduceLE,Int.reduceNeg,reduceCtorEq,dm,d3,hwm]|(first|(refine hK _ ?_;clear hK K)|(clear hK K;refine hK _ ?_;clear hK K)|(clear hK K;clear hK K;refine hK _ ?_;clear hK K))|refine And.intro ?_ ?_
                all_goals first|(refine hK4 _ ⟨(addT l1 y,k,m + 1),hnx⟩ ?_ (by simp);simp [StLe,leT,leH,A.Le,A.LeL,O.Le,lkp,freeT,freeH,A.free,A.freeL,cond_true,cond_false,nbeq,nble,nblt,decide_true,decide_false,Nat.reduceLT,Nat.reduceBEq,true_and,and_true,List.length_cons,List.length_nil,true_implies,and_self,Bool.and_true,Bool.true_and,Bool.and_self];done)|(simp;done)|omega|skip
              | false =>
                rw [hmm] at hmx hnx
                rw [cond_false] at hnx
                repeat' first|assumption|first|refine s_opt1 ?_|refine s_opt0 ?_|refine s_optq1 ?_|refine s_optq0 ?_|(refine s_norm ?_;try simp only [wsN,wsI,rmv,rng,X.ev,lkp,peel,cond_true,cond_false,nbeq,Nat.reduceBEq,Nat.reduceSub,Nat.reduceAdd,Nat.zero_add,Nat.sub_zero,Nat.sub_self,List.length_cons,List.length_nil,List.length_append,List.cons_append,List.nil_append,List.append_nil])|(refine s_take fun K hK => ?_)|(refine s_cons (fun K hK => ?_) ?_)|exact s_tnil|refine s_br ?_|refine s_done ?_|refine s_seq fun K hK => ?_|refine s_region ?_|refine s_draw ?_|refine s_tree ?_|refine s_op fun K hK => ?_|refine s_opq fun K hK => ?_|refine s_ops ?_|refine s_endq ?_|simp only [go_sem,Int.reduceToNat,Int.reduceEq,Nat.reduceAdd,Nat.reduceBEq,Nat.reduceLeDiff,Nat.reduceLT,Int.reduceLT,Int.reduceLE,Int.reduceNeg,reduceCtorEq,dm,d3,d8,d7,hl1,hwm,Int.toNat_natCast,hgd,encs,Term.enc_eq,List.getD_cons_zero,List.getD_cons_succ]|(first|(refine hK _ ?_;clear hK K)|(clear hK K;refine hK _ ?_;clear hK K)|(clear hK K;clear hK K;refine hK _ ?_;clear hK K))|refine And.intro ?_ ?_|refine s_callb hmx ?_
                all_goals first|(refine hK4 _ ⟨(l1,k,m + 1),hnx⟩ ?_ (by simp);simp [StLe,leT,leH,A.Le,A.LeL,O.Le,lkp,freeT,freeH,A.free,A.freeL,cond_true,cond_false,nbeq,nble,nblt,decide_true,decide_false,Nat.reduceLT,Nat.reduceBEq,true_and,and_true,List.length_cons,List.length_nil,true_implies,and_self,Bool.and_true,Bool.true_and,Bool.and_self];done)|(simp;done)|omega|skip
            · have d7 : decide (t.op = 7) = false:=decide_eq_false h7
              have ha : addsT l1 (apartT l1 t) = l1:=by unfold apartT;rw [if_neg h3,if_neg h8,if_neg h7];rfl
              rw [ha] at hnx
              repeat' first|assumption|first|refine s_opt1 ?_|refine s_opt0 ?_|refine s_optq1 ?_|refine s_optq0 ?_|(refine s_norm ?_;try simp only [wsN,wsI,rmv,rng,X.ev,lkp,peel,cond_true,cond_false,nbeq,Nat.reduceBEq,Nat.reduceSub,Nat.reduceAdd,Nat.zero_add,Nat.sub_zero,Nat.sub_self,List.length_cons,List.length_nil,List.length_append,List.cons_append,List.nil_append,List.append_nil])|(refine s_take fun K hK => ?_)|(refine s_cons (fun K hK => ?_) ?_)|exact s_tnil|refine s_br ?_|refine s_done ?_|refine s_seq fun K hK => ?_|refine s_region ?_|refine s_draw ?_|refine s_tree ?_|refine s_op fun K hK => ?_|refine s_opq fun K hK => ?_|refine s_ops ?_|refine s_endq ?_|simp only [go_sem,Int.reduceToNat,Int.reduceEq,Nat.reduceAdd,Nat.reduceBEq,Nat.reduceLeDiff,Nat.reduceLT,Int.reduceLT,Int.reduceLE,Int.reduceNeg,reduceCtorEq,dm,d3,d8,d7,hl1,hwm,Int.toNat_natCast,hgd]|(first|(refine hK _ ?_;clear hK K)|(clear hK K;refine hK _ ?_;clear hK K)|(clear hK K;clear hK K;refine hK _ ?_;clear hK K))|refine And.intro ?_ ?_
              all_goals first|(refine hK4 _ ⟨(l1,k,m + 1),hnx⟩ ?_ (by simp);simp [StLe,leT,leH,A.Le,A.LeL,O.Le,lkp,freeT,freeH,A.free,A.freeL,cond_true,cond_false,nbeq,nble,nblt,decide_true,decide_false,Nat.reduceLT,Nat.reduceBEq,true_and,and_true,List.length_cons,List.length_nil,true_implies,and_self,Bool.and_true,Bool.true_and,Bool.and_self];done)|(simp;done)|omega|skip
      · have dm : decide ((m : Int) < l1.length) = false:=decide_eq_false (by omega)
        have he:=pas_end hpas' (by omega)
        have hle:=hpas'.2.2.1
        clear hK4
        by_cases hsame : (passN 301 l0 0).length = l0.length
        · have dg : decide ((l0.length : Int) < l1.length) = false:=decide_eq_false (by rw [he,hsame];omega)
          have hend:=he.trans ((rnd_end hrn' hsame).trans hpp)
          repeat' first|assumption|first|refine s_opt1 ?_|refine s_opt0 ?_|refine s_optq1 ?_|refine s_optq0 ?_|(refine s_norm ?_;try simp only [wsN,wsI,rmv,rng,X.ev,lkp,peel,cond_true,cond_false,nbeq,Nat.reduceBEq,Nat.reduceSub,Nat.reduceAdd,Nat.zero_add,Nat.sub_zero,Nat.sub_self,List.length_cons,List.length_nil,List.length_append,List.cons_append,List.nil_append,List.append_nil])|(refine s_take fun K hK => ?_)|(refine s_cons (fun K hK => ?_) ?_)|exact s_tnil|refine s_br ?_|refine s_done ?_|refine s_seq fun K hK => ?_|refine s_region ?_|refine s_draw ?_|refine s_tree ?_|refine s_op fun K hK => ?_|refine s_opq fun K hK => ?_|refine s_ops ?_|refine s_endq ?_|simp only [go_sem,Int.reduceToNat,Int.reduceEq,Nat.reduceAdd,Nat.reduceBEq,Nat.reduceLeDiff,Nat.reduceLT,Int.reduceLT,Int.reduceLE,Int.reduceNeg,reduceCtorEq,dm,hl1,dg]|(first|(refine hK _ ?_;clear hK K)|(clear hK K;refine hK _ ?_;clear hK K)|(clear hK K;clear hK K;refine hK _ ?_;clear hK K))|refine And.intro ?_ ?_
          refine hK2 _ none ?_ (by simp)
          rw [hend]
          simp [StLe,leT,leH,A.Le,A.LeL,O.Le,lkp,freeT,freeH,A.free,A.freeL,cond_true,cond_false,nbeq,nble,nblt,decide_true,decide_false,Nat.reduceLT,Nat.reduceBEq,true_and,and_true,List.length_cons,List.length_nil,true_implies,and_self,Bool.and_true,Bool.true_and,Bool.and_self]
        · have dg : decide ((l0.length : Int) < l1.length) = true:=decide_eq_true (by rw [← he] at hsame;omega)
          repeat' first|assumption|first|refine s_opt1 ?_|refine s_opt0 ?_|refine s_optq1 ?_|refine s_optq0 ?_|(refine s_norm ?_;try simp only [wsN,wsI,rmv,rng,X.ev,lkp,peel,cond_true,cond_false,nbeq,Nat.reduceBEq,Nat.reduceSub,Nat.reduceAdd,Nat.zero_add,Nat.sub_zero,Nat.sub_self,List.length_cons,List.length_nil,List.length_append,List.cons_append,List.nil_append,List.append_nil])|(refine s_take fun K hK => ?_)|(refine s_cons (fun K hK => ?_) ?_)|exact s_tnil|refine s_br ?_|refine s_done ?_|refine s_seq fun K hK => ?_|refine s_region ?_|refine s_draw ?_|refine s_tree ?_|refine s_op fun K hK => ?_|refine s_opq fun K hK => ?_|refine s_ops ?_|refine s_endq ?_|simp only [go_sem,Int.reduceToNat,Int.reduceEq,Nat.reduceAdd,Nat.reduceBEq,Nat.reduceLeDiff,Nat.reduceLT,Int.reduceLT,Int.reduceLE,Int.reduceNeg,reduceCtorEq,dm,hl1,dg]|(first|(refine hK _ ?_;clear hK K)|(clear hK K;refine hK _ ?_;clear hK K)|(clear hK K;clear hK K;refine hK _ ?_;clear hK K))|refine And.intro ?_ ?_
          refine hK2 _ (some ⟨(l1,fu),by rw [he];exact rnd_next hrn' hsame⟩) ?_ (by simp)
          simp [StLe,leT,leH,A.Le,A.LeL,O.Le,lkp,freeT,freeH,A.free,A.freeL,cond_true,cond_false,nbeq,nble,nblt,decide_true,decide_false,Nat.reduceLT,Nat.reduceBEq,true_and,and_true,List.length_cons,List.length_nil,true_implies,and_self,Bool.and_true,Bool.true_and,Bool.and_self]
end Go.Proofs.YtlddcimpdkcgeaaDoor
