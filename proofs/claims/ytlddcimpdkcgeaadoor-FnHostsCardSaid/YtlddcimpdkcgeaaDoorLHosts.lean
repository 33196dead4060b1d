/- The law. -/
import Derived.Test.YtlddcimpdkcgeaaDoorD12
import Derived.Test.YtlddcimpdkcgeaaDoorG13
set_option linter.unusedVariables false
set_option linter.unusedSimpArgs false
set_option maxRecDepth 20000
set_option maxHeartbeats 16000000
namespace Go.Proofs.YtlddcimpdkcgeaaDoor
open Go.RowKit Sym Go
attribute [local irreducible] awp aops aopsQ gop gopQ gopO gopOQ gopV gopT awpN awpT awpTs ACall after
theorem big_ct (b : List Int) : Ct Tryd.prog 9 [.d false (.sl (encB b))] (.d true (.bool (decide (1048576 < (b.length : Int))))):=by
  refine ok9.ct mo Tryd.func9 (by simp) rfl fun hok => ?_
  unfold ac9
  repeat' first|assumption|first|refine s_opt1 ?_|refine s_opt0 ?_|refine s_optq1 ?_|refine s_optq0 ?_|(refine s_norm ?_;try simp only [wsN,wsI,rmv,rng,X.ev,lkp,peel,cond_true,cond_false,nbeq,Nat.reduceBEq,Nat.reduceSub,Nat.reduceAdd,Nat.zero_add,Nat.sub_zero,Nat.sub_self,List.length_cons,List.length_nil,List.length_append,List.cons_append,List.nil_append,List.append_nil])|(refine s_take fun K hK => ?_)|(refine s_cons (fun K hK => ?_) ?_)|exact s_tnil|refine s_br ?_|refine s_done ?_|refine s_seq fun K hK => ?_|refine s_region ?_|refine s_draw ?_|refine s_tree ?_|refine s_op fun K hK => ?_|refine s_opq fun K hK => ?_|refine s_ops ?_|refine s_endq ?_|simp only [go_sem,Int.reduceToNat,Int.reduceEq,Nat.reduceAdd,Nat.reduceBEq,Nat.reduceLeDiff,Nat.reduceLT,Int.reduceLT,Int.reduceLE,Int.reduceNeg,reduceCtorEq,encB_length]|(first|(refine hK _ ?_;clear hK K)|(clear hK K;refine hK _ ?_;clear hK K)|(clear hK K;clear hK K;refine hK _ ?_;clear hK K))|refine And.intro ?_ ?_
  all_goals first|(simp [go_sem,tids,A.tid,A.tid.go,List.cons_append,frzT,St.frz,A.sub,A.subL,O.sub,subT,subH,frzY,frzZ,Post,aret,evRs,RV.ev,tupA,A.Le,A.LeL,lkp,St.frzs,St.frz,A.ids,A.idsL,cond_true,cond_false,nbeq,nble,decide_true,decide_false,Nat.reduceLeDiff,Nat.reduceBEq,Nat.reduceAdd,beq_self_eq_true,true_and,and_true,true_implies,List.append_nil,List.nil_append,List.getElem?_cons_zero,List.getElem?_cons_succ,List.length_cons,List.length_nil,List.drop_zero,List.take_succ_cons,List.take_zero,and_self];done)|trivial|skip
theorem law_Hosts (b : List Int) : Ct Tryd.prog 4 [.d false (.sl (encB b))] (.d true (.bool true)):=by
  have hbig:=big_ct b
  refine ok4.ct mo Tryd.func4 (by simp) rfl fun hok => ?_
  unfold ac4
  by_cases hl : (1048576 : Int) < b.length
  · rw [decide_eq_true hl] at hbig
    repeat' first|assumption|first|refine s_opt1 ?_|refine s_opt0 ?_|refine s_optq1 ?_|refine s_optq0 ?_|(refine s_norm ?_;try simp only [wsN,wsI,rmv,rng,X.ev,lkp,peel,cond_true,cond_false,nbeq,Nat.reduceBEq,Nat.reduceSub,Nat.reduceAdd,Nat.zero_add,Nat.sub_zero,Nat.sub_self,List.length_cons,List.length_nil,List.length_append,List.cons_append,List.nil_append,List.append_nil])|(refine s_take fun K hK => ?_)|(refine s_cons (fun K hK => ?_) ?_)|exact s_tnil|refine s_br ?_|refine s_done ?_|refine s_seq fun K hK => ?_|refine s_region ?_|refine s_draw ?_|refine s_tree ?_|refine s_op fun K hK => ?_|refine s_opq fun K hK => ?_|refine s_ops ?_|refine s_endq ?_|simp only [go_sem,Int.reduceToNat,Int.reduceEq,Nat.reduceAdd,Nat.reduceBEq,Nat.reduceLeDiff,Nat.reduceLT,Int.reduceLT,Int.reduceLE,Int.reduceNeg,reduceCtorEq]|(first|(refine hK _ ?_;clear hK K)|(clear hK K;refine hK _ ?_;clear hK K)|(clear hK K;clear hK K;refine hK _ ?_;clear hK K))|refine And.intro ?_ ?_|refine s_call hbig ?_
    all_goals first|(simp [go_sem,tids,A.tid,A.tid.go,List.cons_append,frzT,St.frz,A.sub,A.subL,O.sub,subT,subH,frzY,frzZ,Post,aret,evRs,RV.ev,tupA,A.Le,A.LeL,lkp,St.frzs,St.frz,A.ids,A.idsL,cond_true,cond_false,nbeq,nble,decide_true,decide_false,Nat.reduceLeDiff,Nat.reduceBEq,Nat.reduceAdd,beq_self_eq_true,true_and,and_true,true_implies,List.append_nil,List.nil_append,List.getElem?_cons_zero,List.getElem?_cons_succ,List.length_cons,List.length_nil,List.drop_zero,List.take_succ_cons,List.take_zero,and_self];done)|trivial|skip
  · rw [decide_eq_false hl] at hbig
    have hb : b.length ≤ 1048576:=by omega
    repeat' first|assumption|first|refine s_opt1 ?_|refine s_opt0 ?_|refine s_optq1 ?_|refine s_optq0 ?_|(refine s_norm ?_;try simp only [wsN,wsI,rmv,rng,X.ev,lkp,peel,cond_true,cond_false,nbeq,Nat.reduceBEq,Nat.reduceSub,Nat.reduceAdd,Nat.zero_add,Nat.sub_zero,Nat.sub_self,List.length_cons,List.length_nil,List.length_append,List.cons_append,List.nil_append,List.append_nil])|(refine s_take fun K hK => ?_)|(refine s_cons (fun K hK => ?_) ?_)|exact s_tnil|refine s_br ?_|refine s_done ?_|refine s_seq fun K hK => ?_|refine s_region ?_|refine s_draw ?_|refine s_tree ?_|refine s_op fun K hK => ?_|refine s_opq fun K hK => ?_|refine s_ops ?_|refine s_endq ?_|simp only [go_sem,Int.reduceToNat,Int.reduceEq,Nat.reduceAdd,Nat.reduceBEq,Nat.reduceLeDiff,Nat.reduceLT,Int.reduceLT,Int.reduceLE,Int.reduceNeg,reduceCtorEq]|(first|(refine hK _ ?_;clear hK K)|(clear hK K;refine hK _ ?_;clear hK K)|(clear hK K;clear hK K;refine hK _ ?_;clear hK K))|refine And.intro ?_ ?_|refine s_call hbig ?_|refine s_callh [] [] (drawFits_ct b hb) rfl rfl (by first|trivial|exact ⟨rfl,trivial⟩) (by decide) rfl (by first|trivial|exact ⟨rfl,trivial⟩|simp [allK,mkB,inL]) ?_
    all_goals first|(show ∀ _ _,_ → _;skip)|(simp;done)|skip
    rintro r hs ⟨p,h,hp,hh,rfl,rfl⟩
    repeat' first|assumption|first|refine s_opt1 ?_|refine s_opt0 ?_|refine s_optq1 ?_|refine s_optq0 ?_|(refine s_norm ?_;try simp only [wsN,wsI,rmv,rng,X.ev,lkp,peel,cond_true,cond_false,nbeq,Nat.reduceBEq,Nat.reduceSub,Nat.reduceAdd,Nat.zero_add,Nat.sub_zero,Nat.sub_self,List.length_cons,List.length_nil,List.length_append,List.cons_append,List.nil_append,List.append_nil])|(refine s_take fun K hK => ?_)|(refine s_cons (fun K hK => ?_) ?_)|exact s_tnil|refine s_br ?_|refine s_done ?_|refine s_seq fun K hK => ?_|refine s_region ?_|refine s_draw ?_|refine s_tree ?_|refine s_op fun K hK => ?_|refine s_opq fun K hK => ?_|refine s_ops ?_|refine s_endq ?_|simp only [go_sem,Int.reduceToNat,Int.reduceEq,Nat.reduceAdd,Nat.reduceBEq,Nat.reduceLeDiff,Nat.reduceLT,Int.reduceLT,Int.reduceLE,Int.reduceNeg,reduceCtorEq]|(first|(refine hK _ ?_;clear hK K)|(clear hK K;refine hK _ ?_;clear hK K)|(clear hK K;clear hK K;refine hK _ ?_;clear hK K))|refine And.intro ?_ ?_|refine s_callh [] [] (drawHostOk_ct b hb) rfl rfl (by first|trivial|exact ⟨rfl,trivial⟩) (by decide) rfl (by first|trivial|exact ⟨rfl,trivial⟩|simp [allK,mkB,inL]) ?_
    all_goals first|(show ∀ _ _,_ → _;skip)|(simp;done)|skip
    rintro r hs ⟨s,hsz,rfl,rfl⟩
    repeat' first|assumption|first|refine s_opt1 ?_|refine s_opt0 ?_|refine s_optq1 ?_|refine s_optq0 ?_|(refine s_norm ?_;try simp only [wsN,wsI,rmv,rng,X.ev,lkp,peel,cond_true,cond_false,nbeq,Nat.reduceBEq,Nat.reduceSub,Nat.reduceAdd,Nat.zero_add,Nat.sub_zero,Nat.sub_self,List.length_cons,List.length_nil,List.length_append,List.cons_append,List.nil_append,List.append_nil])|(refine s_take fun K hK => ?_)|(refine s_cons (fun K hK => ?_) ?_)|exact s_tnil|refine s_br ?_|refine s_done ?_|refine s_seq fun K hK => ?_|refine s_region ?_|refine s_draw ?_|refine s_tree ?_|refine s_op fun K hK => ?_|refine s_opq fun K hK => ?_|refine s_ops ?_|refine s_endq ?_|simp only [go_sem,Int.reduceToNat,Int.reduceEq,Nat.reduceAdd,Nat.reduceBEq,Nat.reduceLeDiff,Nat.reduceLT,Int.reduceLT,Int.reduceLE,Int.reduceNeg,reduceCtorEq]|(first|(refine hK _ ?_;clear hK K)|(clear hK K;refine hK _ ?_;clear hK K)|(clear hK K;clear hK K;refine hK _ ?_;clear hK K))|refine And.intro ?_ ?_|refine s_callh [] [] (drawPatternOk_ct b hb) rfl rfl (by first|trivial|exact ⟨rfl,trivial⟩) (by decide) rfl (by first|trivial|exact ⟨rfl,trivial⟩|simp [allK,mkB,inL]) ?_
    all_goals first|(show ∀ _ _,_ → _;skip)|(simp;done)|skip
    rintro r hs ⟨t,htz,rfl,rfl⟩
    repeat' first|assumption|first|refine s_opt1 ?_|refine s_opt0 ?_|refine s_optq1 ?_|refine s_optq0 ?_|(refine s_norm ?_;try simp only [wsN,wsI,rmv,rng,X.ev,lkp,peel,cond_true,cond_false,nbeq,Nat.reduceBEq,Nat.reduceSub,Nat.reduceAdd,Nat.zero_add,Nat.sub_zero,Nat.sub_self,List.length_cons,List.length_nil,List.length_append,List.cons_append,List.nil_append,List.append_nil])|(refine s_take fun K hK => ?_)|(refine s_cons (fun K hK => ?_) ?_)|exact s_tnil|refine s_br ?_|refine s_done ?_|refine s_seq fun K hK => ?_|refine s_region ?_|refine s_draw ?_|refine s_tree ?_|refine s_op fun K hK => ?_|refine s_opq fun K hK => ?_|refine s_ops ?_|refine s_endq ?_|simp only [go_sem,Int.reduceToNat,Int.reduceEq,Nat.reduceAdd,Nat.reduceBEq,Nat.reduceLeDiff,Nat.reduceLT,Int.reduceLT,Int.reduceLE,Int.reduceNeg,reduceCtorEq]|(first|(refine hK _ ?_;clear hK K)|(clear hK K;refine hK _ ?_;clear hK K)|(clear hK K;clear hK K;refine hK _ ?_;clear hK K))|refine And.intro ?_ ?_|refine s_callh [] [] (drawLabels_ct b hb) rfl rfl (by first|trivial|exact ⟨rfl,trivial⟩) (by decide) rfl (by first|trivial|exact ⟨rfl,trivial⟩|simp [allK,mkB,inL]) ?_
    all_goals first|(show ∀ _ _,_ → _;skip)|(simp;done)|skip
    rintro r hs ⟨l,hlz,rfl,rfl⟩
    have f2:=fits2_ct p h (by omega) (by omega)
    have f1:=fits1_ct p h (by omega) (by omega)
    have h2:=host2_ct s (by omega)
    have h1:=host1_ct s (by omega)
    have p2:=pat2_ct t (by omega)
    have p1:=pat1_ct t (by omega)
    have l2:=(labels2_ct l (by omega)).weak (r':=.d false (.sl (encStr (labs l)))) (by simp [A.Le])
    have l1:=(labels1_ct l (by omega)).weak (r':=.d false (.sl (encStr (labs l)))) (by simp [A.Le])
    have sm:=sameTexts_ct (labs l)
    have lp:=(labels2_ct p (by omega)).weak (r':=.d false (.sl (encStr (labs p)))) (by simp [A.Le])
    have lh:=(labels2_ct h (by omega)).weak (r':=.d false (.sl (encStr (labs h)))) (by simp [A.Le])
    have ls:=(labels2_ct s (by omega)).weak (r':=.d false (.sl (encStr (labs s)))) (by simp [A.Le])
    have hfl:=fits_len (p:=p) (h:=h)
    have np:=encStr_length (labs p)
    have nh:=encStr_length (labs h)
    have hps:=pat2_ct s (by omega)
    have hfs:=fits2_ct s s (by omega) (by omega)
    generalize labs l = ll at *
    generalize patB t = pt at *
    generalize hff : fitsB p h = ff at *
    generalize hpl : labs p = pl at *
    generalize hhl : labs h = hll at *
    have hff2 : ff = false ∨ (ff = true ∧ pl.length = hll.length):=by
      cases ff with
      | false => exact .inl rfl
      | true => exact .inr ⟨rfl,hfl rfl⟩
    clear hfl hff
    cases hho : hostB s 2 with
    | false =>
      rw [hho] at h2 h1
      rcases hff2 with rfl|⟨rfl,he⟩
      · repeat' first|first|refine s_opt1 ?_|refine s_opt0 ?_|refine s_optq1 ?_|refine s_optq0 ?_|(refine s_norm ?_;try simp only [wsN,wsI,rmv,rng,X.ev,lkp,peel,cond_true,cond_false,nbeq,Nat.reduceBEq,Nat.reduceSub,Nat.reduceAdd,Nat.zero_add,Nat.sub_zero,Nat.sub_self,List.length_cons,List.length_nil,List.length_append,List.cons_append,List.nil_append,List.append_nil])|(refine s_take fun K hK => ?_)|(refine s_cons (fun K hK => ?_) ?_)|exact s_tnil|refine s_br ?_|refine s_done ?_|refine s_seq fun K hK => ?_|refine s_region ?_|refine s_draw ?_|refine s_tree ?_|refine s_op fun K hK => ?_|refine s_opq fun K hK => ?_|refine s_ops ?_|refine s_endq ?_|simp only [go_sem,Int.reduceToNat,Int.reduceEq,Nat.reduceAdd,Nat.reduceBEq,Nat.reduceLeDiff,Nat.reduceLT,Int.reduceLT,Int.reduceLE,Int.reduceNeg,reduceCtorEq,bne_self_eq_false,beq_self_eq_true,decide_true,Bool.not_true]|(first|(refine hK _ ?_;clear hK K)|(clear hK K;refine hK _ ?_;clear hK K)|(clear hK K;clear hK K;refine hK _ ?_;clear hK K))|refine And.intro ?_ ?_|refine s_call f2 ?_|refine s_call f1 ?_|refine s_call h2 ?_|refine s_call h1 ?_|refine s_call p2 ?_|refine s_call p1 ?_|refine s_call l2 ?_|refine s_call l1 ?_|refine s_call sm ?_
        all_goals first|(simp [go_sem,tids,A.tid,A.tid.go,List.cons_append,frzT,St.frz,A.sub,A.subL,O.sub,subT,subH,frzY,frzZ,Post,aret,evRs,RV.ev,tupA,A.Le,A.LeL,lkp,St.frzs,St.frz,A.ids,A.idsL,cond_true,cond_false,nbeq,nble,decide_true,decide_false,Nat.reduceLeDiff,Nat.reduceBEq,Nat.reduceAdd,beq_self_eq_true,true_and,and_true,true_implies,List.append_nil,List.nil_append,List.getElem?_cons_zero,List.getElem?_cons_succ,List.length_cons,List.length_nil,List.drop_zero,List.take_succ_cons,List.take_zero,and_self];done)|(simp;done)|skip
      · have de : decide ((hll.length : Int) = hll.length) = true:=decide_eq_true rfl
        rw [he] at np
        repeat' first|first|refine s_opt1 ?_|refine s_opt0 ?_|refine s_optq1 ?_|refine s_optq0 ?_|(refine s_norm ?_;try simp only [wsN,wsI,rmv,rng,X.ev,lkp,peel,cond_true,cond_false,nbeq,Nat.reduceBEq,Nat.reduceSub,Nat.reduceAdd,Nat.zero_add,Nat.sub_zero,Nat.sub_self,List.length_cons,List.length_nil,List.length_append,List.cons_append,List.nil_append,List.append_nil])|(refine s_take fun K hK => ?_)|(refine s_cons (fun K hK => ?_) ?_)|exact s_tnil|refine s_br ?_|refine s_done ?_|refine s_seq fun K hK => ?_|refine s_region ?_|refine s_draw ?_|refine s_tree ?_|refine s_op fun K hK => ?_|refine s_opq fun K hK => ?_|refine s_ops ?_|refine s_endq ?_|simp only [go_sem,Int.reduceToNat,Int.reduceEq,Nat.reduceAdd,Nat.reduceBEq,Nat.reduceLeDiff,Nat.reduceLT,Int.reduceLT,Int.reduceLE,Int.reduceNeg,reduceCtorEq,np,nh,de,bne_self_eq_false,beq_self_eq_true,decide_true,Bool.not_true]|(first|(refine hK _ ?_;clear hK K)|(clear hK K;refine hK _ ?_;clear hK K)|(clear hK K;clear hK K;refine hK _ ?_;clear hK K))|refine And.intro ?_ ?_|refine s_call f2 ?_|refine s_call f1 ?_|refine s_call h2 ?_|refine s_call h1 ?_|refine s_call p2 ?_|refine s_call p1 ?_|refine s_call l2 ?_|refine s_call l1 ?_|refine s_call sm ?_|refine s_call lp ?_|refine s_call lh ?_
        all_goals first|(simp [go_sem,tids,A.tid,A.tid.go,List.cons_append,frzT,St.frz,A.sub,A.subL,O.sub,subT,subH,frzY,frzZ,Post,aret,evRs,RV.ev,tupA,A.Le,A.LeL,lkp,St.frzs,St.frz,A.ids,A.idsL,cond_true,cond_false,nbeq,nble,decide_true,decide_false,Nat.reduceLeDiff,Nat.reduceBEq,Nat.reduceAdd,beq_self_eq_true,true_and,and_true,true_implies,List.append_nil,List.nil_append,List.getElem?_cons_zero,List.getElem?_cons_succ,List.length_cons,List.length_nil,List.drop_zero,List.take_succ_cons,List.take_zero,and_self];done)|(simp;done)|skip
    | true =>
      obtain ⟨x,xs,rest,e1,e2,e3,e4,e5,e6,e7⟩:=host_pack hho
      rw [hho] at h2 h1
      rw [e5] at hps
      rw [e6] at hfs
      rw [e1] at ls
      have hr:=host2_ct rest (by omega)
      have hsl : (0 : Int) ≤ ((x.size + 1 : Nat) : Int) ∧ ((x.size + 1 : Nat) : Int) ≤ (s.size : Int):=⟨by omega,by omega⟩
      have hsl2 : ((x.size + 1 : Nat) : Int) ≤ (s.size : Int):=by omega
      have sz1 : ((⟨#[42,46]⟩ : ByteArray) ++ rest).size = 2 + rest.size:=ByteArray.size_append
      have sz2 : ((⟨#[113,46]⟩ : ByteArray) ++ s).size = 2 + s.size:=ByteArray.size_append
      have g1:=fits2_ct (⟨#[42,46]⟩ ++ rest) s (by omega) (by omega)
      have g2:=fits2_ct (⟨#[42,46]⟩ ++ rest) (⟨#[113,46]⟩ ++ s) (by omega) (by omega)
      have q1 : (⟨#[42,46]⟩ : ByteArray).size + rest.size ≤ 4611686018427387904:=by show 2 + rest.size ≤ _;omega
      have q2 : (⟨#[113,46]⟩ : ByteArray).size + s.size ≤ 4611686018427387904:=by show 2 + s.size ≤ _;omega
      have s1 : s.size ≤ 4611686018427387904:=by omega
      have hes : encStr (x :: xs) = [.str x] :: encStr xs:=rfl
      rw [hes] at ls
      generalize encStr xs = exs at *
      have hw : wrap64 ((x.size : Int) + 1) = ((x.size + 1 : Nat) : Int):=w64 (by omega) (by omega)
      cases hrb : hostB rest 2 with
      | false =>
        rw [hrb] at hr
        clear g1 g2 e7
        rcases hff2 with rfl|⟨rfl,he⟩
        · repeat' first|first|refine s_opt1 ?_|refine s_opt0 ?_|refine s_optq1 ?_|refine s_optq0 ?_|(refine s_norm ?_;try simp only [wsN,wsI,rmv,rng,X.ev,lkp,peel,cond_true,cond_false,nbeq,Nat.reduceBEq,Nat.reduceSub,Nat.reduceAdd,Nat.zero_add,Nat.sub_zero,Nat.sub_self,List.length_cons,List.length_nil,List.length_append,List.cons_append,List.nil_append,List.append_nil])|(refine s_take fun K hK => ?_)|(refine s_cons (fun K hK => ?_) ?_)|exact s_tnil|refine s_br ?_|refine s_done ?_|refine s_seq fun K hK => ?_|refine s_region ?_|refine s_draw ?_|refine s_tree ?_|refine s_op fun K hK => ?_|refine s_opq fun K hK => ?_|refine s_ops ?_|refine s_endq ?_|simp only [go_sem,Int.reduceToNat,Int.reduceEq,Nat.reduceAdd,Nat.reduceBEq,Nat.reduceLeDiff,Nat.reduceLT,Int.reduceLT,Int.reduceLE,Int.reduceNeg,reduceCtorEq,hw,e3,Int.toNat_natCast,bne_self_eq_false,beq_self_eq_true,decide_true,Bool.not_true]|(first|(refine hK _ ?_;clear hK K)|(clear hK K;refine hK _ ?_;clear hK K)|(clear hK K;clear hK K;refine hK _ ?_;clear hK K))|refine And.intro ?_ ?_|refine s_call f2 ?_|refine s_call f1 ?_|refine s_call h2 ?_|refine s_call h1 ?_|refine s_call p2 ?_|refine s_call p1 ?_|refine s_call l2 ?_|refine s_call l1 ?_|refine s_call sm ?_|refine s_call ls ?_|refine s_call hps ?_|refine s_call hfs ?_|refine s_call hr ?_
          all_goals first|(simp [go_sem,tids,A.tid,A.tid.go,List.cons_append,frzT,St.frz,A.sub,A.subL,O.sub,subT,subH,frzY,frzZ,Post,aret,evRs,RV.ev,tupA,A.Le,A.LeL,lkp,St.frzs,St.frz,A.ids,A.idsL,cond_true,cond_false,nbeq,nble,decide_true,decide_false,Nat.reduceLeDiff,Nat.reduceBEq,Nat.reduceAdd,beq_self_eq_true,true_and,and_true,true_implies,List.append_nil,List.nil_append,List.getElem?_cons_zero,List.getElem?_cons_succ,List.length_cons,List.length_nil,List.drop_zero,List.take_succ_cons,List.take_zero,and_self];done)|exact hsl|exact hsl2|exact hsl.1|(simp;done)|skip
        · have de : decide ((hll.length : Int) = hll.length) = true:=decide_eq_true rfl
          rw [he] at np
          repeat' first|first|refine s_opt1 ?_|refine s_opt0 ?_|refine s_optq1 ?_|refine s_optq0 ?_|(refine s_norm ?_;try simp only [wsN,wsI,rmv,rng,X.ev,lkp,peel,cond_true,cond_false,nbeq,Nat.reduceBEq,Nat.reduceSub,Nat.reduceAdd,Nat.zero_add,Nat.sub_zero,Nat.sub_self,List.length_cons,List.length_nil,List.length_append,List.cons_append,List.nil_append,List.append_nil])|(refine s_take fun K hK => ?_)|(refine s_cons (fun K hK => ?_) ?_)|exact s_tnil|refine s_br ?_|refine s_done ?_|refine s_seq fun K hK => ?_|refine s_region ?_|refine s_draw ?_|refine s_tree ?_|refine s_op fun K hK => ?_|refine s_opq fun K hK => ?_|refine s_ops ?_|refine s_endq ?_|simp only [go_sem,Int.reduceToNat,Int.reduceEq,Nat.reduceAdd,Nat.reduceBEq,Nat.reduceLeDiff,Nat.reduceLT,Int.reduceLT,Int.reduceLE,Int.reduceNeg,reduceCtorEq,np,nh,de,hw,e3,Int.toNat_natCast,bne_self_eq_false,beq_self_eq_true,decide_true,Bool.not_true]|(first|(refine hK _ ?_;clear hK K)|(clear hK K;refine hK _ ?_;clear hK K)|(clear hK K;clear hK K;refine hK _ ?_;clear hK K))|refine And.intro ?_ ?_|refine s_call f2 ?_|refine s_call f1 ?_|refine s_call h2 ?_|refine s_call h1 ?_|refine s_call p2 ?_|refine s_call p1 ?_|refine s_call l2 ?_|refine s_call l1 ?_|refine s_call sm ?_|refine s_call lp ?_|refine s_call lh ?_|refine s_call ls ?_|refine s_call hps ?_|refine s_call hfs ?_|refine s_call hr ?_
          all_goals first|(simp [go_sem,tids,A.tid,A.tid.go,List.cons_append,frzT,St.frz,A.sub,A.subL,O.sub,subT,subH,frzY,frzZ,Post,aret,evRs,RV.ev,tupA,A.Le,A.LeL,lkp,St.frzs,St.frz,A.ids,A.idsL,cond_true,cond_false,nbeq,nble,decide_true,decide_false,Nat.reduceLeDiff,Nat.reduceBEq,Nat.reduceAdd,beq_self_eq_true,true_and,and_true,true_implies,List.append_nil,List.nil_append,List.getElem?_cons_zero,List.getElem?_cons_succ,List.length_cons,List.length_nil,List.drop_zero,List.take_succ_cons,List.take_zero,and_self];done)|exact hsl|exact hsl2|exact hsl.1|(simp;done)|skip
      | true =>
        obtain ⟨e8,e9⟩:=e7 hrb
        rw [hrb] at hr
        rw [e8] at g1
        rw [e9] at g2
        clear e8 e9 e7
        rcases hff2 with rfl|⟨rfl,he⟩
        · repeat' first|first|refine s_opt1 ?_|refine s_opt0 ?_|refine s_optq1 ?_|refine s_optq0 ?_|(refine s_norm ?_;try simp only [wsN,wsI,rmv,rng,X.ev,lkp,peel,cond_true,cond_false,nbeq,Nat.reduceBEq,Nat.reduceSub,Nat.reduceAdd,Nat.zero_add,Nat.sub_zero,Nat.sub_self,List.length_cons,List.length_nil,List.length_append,List.cons_append,List.nil_append,List.append_nil])|(refine s_take fun K hK => ?_)|(refine s_cons (fun K hK => ?_) ?_)|exact s_tnil|refine s_br ?_|refine s_done ?_|refine s_seq fun K hK => ?_|refine s_region ?_|refine s_draw ?_|refine s_tree ?_|refine s_op fun K hK => ?_|refine s_opq fun K hK => ?_|refine s_ops ?_|refine s_endq ?_|simp only [go_sem,Int.reduceToNat,Int.reduceEq,Nat.reduceAdd,Nat.reduceBEq,Nat.reduceLeDiff,Nat.reduceLT,Int.reduceLT,Int.reduceLE,Int.reduceNeg,reduceCtorEq,hw,e3,Int.toNat_natCast,bne_self_eq_false,beq_self_eq_true,decide_true,Bool.not_true]|(first|(refine hK _ ?_;clear hK K)|(clear hK K;refine hK _ ?_;clear hK K)|(clear hK K;clear hK K;refine hK _ ?_;clear hK K))|refine And.intro ?_ ?_|refine s_call f2 ?_|refine s_call f1 ?_|refine s_call h2 ?_|refine s_call h1 ?_|refine s_call p2 ?_|refine s_call p1 ?_|refine s_call l2 ?_|refine s_call l1 ?_|refine s_call sm ?_|refine s_call ls ?_|refine s_call hps ?_|refine s_call hfs ?_|refine s_call hr ?_|refine s_call g1 ?_|refine s_call g2 ?_
          all_goals first|(simp [go_sem,tids,A.tid,A.tid.go,List.cons_append,frzT,St.frz,A.sub,A.subL,O.sub,subT,subH,frzY,frzZ,Post,aret,evRs,RV.ev,tupA,A.Le,A.LeL,lkp,St.frzs,St.frz,A.ids,A.idsL,cond_true,cond_false,nbeq,nble,decide_true,decide_false,Nat.reduceLeDiff,Nat.reduceBEq,Nat.reduceAdd,beq_self_eq_true,true_and,and_true,true_implies,List.append_nil,List.nil_append,List.getElem?_cons_zero,List.getElem?_cons_succ,List.length_cons,List.length_nil,List.drop_zero,List.take_succ_cons,List.take_zero,and_self];done)|exact hsl|exact hsl2|exact hsl.1|exact q1|exact q2|(simp;done)|skip
        · have de : decide ((hll.length : Int) = hll.length) = true:=decide_eq_true rfl
          rw [he] at np
          repeat' first|first|refine s_opt1 ?_|refine s_opt0 ?_|refine s_optq1 ?_|refine s_optq0 ?_|(refine s_norm ?_;try simp only [wsN,wsI,rmv,rng,X.ev,lkp,peel,cond_true,cond_false,nbeq,Nat.reduceBEq,Nat.reduceSub,Nat.reduceAdd,Nat.zero_add,Nat.sub_zero,Nat.sub_self,List.length_cons,List.length_nil,List.length_append,List.cons_append,List.nil_append,List.append_nil])|(refine s_take fun K hK => ?_)|(refine s_cons (fun K hK => ?_) ?_)|exact s_tnil|refine s_br ?_|refine s_done ?_|refine s_seq fun K hK => ?_|refine s_region ?_|refine s_draw ?_|refine s_tree ?_|refine s_op fun K hK => ?_|refine s_opq fun K hK => ?_|refine s_ops ?_|refine s_endq ?_|simp only [go_sem,Int.reduceToNat,Int.reduceEq,Nat.reduceAdd,Nat.reduceBEq,Nat.reduceLeDiff,Nat.reduceLT,Int.reduceLT,Int.reduceLE,Int.reduceNeg,reduceCtorEq,np,nh,de,hw,e3,Int.toNat_natCast,bne_self_eq_false,beq_self_eq_true,decide_true,Bool.not_true]|(first|(refine hK _ ?_;clear hK K)|(clear hK K;refine hK _ ?_;clear hK K)|(clear hK K;clear hK K;refine hK _ ?_;clear hK K))|refine And.intro ?_ ?_|refine s_call f2 ?_|refine s_call f1 ?_|refine s_call h2 ?_|refine s_call h1 ?_|refine s_call p2 ?_|refine s_call p1 ?_|refine s_call l2 ?_|refine s_call l1 ?_|refine s_call sm ?_|refine s_call lp ?_|refine s_call lh ?_|refine s_call ls ?_|refine s_call hps ?_|refine s_call hfs ?_|refine s_call hr ?_|refine s_call g1 ?_|refine s_call g2 ?_
          all_goals first|(simp [go_sem,tids,A.tid,A.tid.go,List.cons_append,frzT,St.frz,A.sub,A.subL,O.sub,subT,subH,frzY,frzZ,Post,aret,evRs,RV.ev,tupA,A.Le,A.LeL,lkp,St.frzs,St.frz,A.ids,A.idsL,cond_true,cond_false,nbeq,nble,decide_true,decide_false,Nat.reduceLeDiff,Nat.reduceBEq,Nat.reduceAdd,beq_self_eq_true,true_and,and_true,true_implies,List.append_nil,List.nil_append,List.getElem?_cons_zero,List.getElem?_cons_succ,List.length_cons,List.length_nil,List.drop_zero,List.take_succ_cons,List.take_zero,and_self];done)|exact hsl|exact hsl2|exact hsl.1|exact q1|exact q2|(simp;done)|skip
end Go.Proofs.YtlddcimpdkcgeaaDoor
