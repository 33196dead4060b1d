/- The text of a term, by the program. -/
import Derived.Test.YtlddcimpdkcgeaaDoorF19
set_option linter.unusedVariables false
set_option linter.unusedSimpArgs false
set_option maxRecDepth 20000
set_option maxHeartbeats 8000000
namespace Go.Proofs.YtlddcimpdkcgeaaDoor
open Go Go.RowKit Sym
attribute [local irreducible] awp aops aopsQ gop gopQ gopO gopOQ gopV gopT awpN awpT awpTs ACall after
theorem strDs_snoc (xs : List ByteArray) (y : ByteArray) : strDs (xs ++ [y]) = strDs xs ++ [[.str y]]:=by simp [strDs]
theorem join_facts (t : Term) (i : Nat) (hc : t.cnt ≤ 8388608) (h : i < t.kids.length) : decide ((i : Int) < t.kids.length) = true ∧ wrap64 ((i : Int) + 1) = ((i + 1 : Nat) : Int) ∧ (0 ≤ (i : Int) ∧ (i : Int) < t.kids.length) ∧ ((strDs (textBs (t.kids.take i))).length + 1) * 16 ≤ 140737488355328 ∧ (strDs (textBs (t.kids.take i))).length + 1 ≤ 140737488355328:=by
  have h4:=Term.cnt_eq t
  have h6 : (strDs (textBs (t.kids.take i))).length = i:=by rw [strDs_length,textBs_length,List.length_take];omega
  rw [h6]
  refine ⟨decide_eq_true (Int.ofNat_lt.2 h),by rw [w64 (by omega) (by omega)];omega,⟨by omega,by omega⟩,by omega,by omega⟩
theorem join_end (t : Term) (hc : t.cnt ≤ 8388608) : (joinB (textBs t.kids)).size ≤ 140737488355328 ∧ (nameB t.op).size + (⟨#[40]⟩ : ByteArray).size + (joinB (textBs t.kids)).size + (⟨#[41]⟩ : ByteArray).size ≤ 4611686018427387904:=by
  have h1:=nameB_size t.op
  have h2:=joinB_size (textBs t.kids)
  have h3:=textBs_size t.kids
  have h4:=Term.cnt_eq t
  have h5 : (⟨#[40]⟩ : ByteArray).size = 1:=rfl
  have h6 : (⟨#[41]⟩ : ByteArray).size = 1:=rfl
  rw [h5,h6]
  omega
theorem textT2_of (t : Term) (hc : t.cnt ≤ 8388608) (ih : ∀ u,u ∈ t.kids → Ct Tryd.prog 59 [u.v] (.d true (.str (textB u)))) : Ct Tryd.prog 59 [t.v] (.d true (.str (textB t))):=by
  have hd:=itoa_ct t.n
  refine ok59.ct mo Tryd.func59 (by simp) rfl fun hok => ?_
  have hs : t.s.size ≤ 4611686018427387000:=by have:=Term.cnt_eq t;omega
  unfold ac59
  simp only [Term.v_eq] at *
  by_cases h1 : t.op = 1
  · have d1 : decide (t.op = 1) = true:=decide_eq_true h1
    rw [textB_atom h1]
    repeat' first|assumption|first|refine s_opt1 ?_|refine s_opt0 ?_|refine s_optq1 ?_|refine s_optq0 ?_|(refine s_norm ?_;try simp only [wsN,wsI,rmv,rng,X.ev,lkp,peel,cond_true,cond_false,nbeq,Nat.reduceBEq,Nat.reduceSub,Nat.reduceAdd,Nat.zero_add,Nat.sub_zero,Nat.sub_self,List.length_cons,List.length_nil,List.length_append,List.cons_append,List.nil_append,List.append_nil])|(refine s_take fun K hK => ?_)|(refine s_cons (fun K hK => ?_) ?_)|exact s_tnil|refine s_br ?_|refine s_done ?_|refine s_seq fun K hK => ?_|refine s_region ?_|refine s_draw ?_|refine s_tree ?_|refine s_op fun K hK => ?_|refine s_opq fun K hK => ?_|refine s_ops ?_|refine s_endq ?_|simp only [go_sem,Int.reduceToNat,Int.reduceEq,Nat.reduceAdd,Nat.reduceBEq,Nat.reduceLeDiff,Nat.reduceLT,Int.reduceLT,Int.reduceLE,Int.reduceNeg,reduceCtorEq,d1]|(first|(refine hK _ ?_;clear hK K)|(clear hK K;refine hK _ ?_;clear hK K)|(clear hK K;clear hK K;refine hK _ ?_;clear hK K))|refine And.intro ?_ ?_|refine s_call hd ?_
    all_goals first|(simp [go_sem,tids,A.tid,A.tid.go,List.cons_append,frzT,St.frz,A.sub,A.subL,O.sub,subT,subH,frzY,frzZ,Post,aret,evRs,RV.ev,tupA,A.Le,A.LeL,lkp,St.frzs,St.frz,A.ids,A.idsL,cond_true,cond_false,nbeq,nble,decide_true,decide_false,Nat.reduceLeDiff,Nat.reduceBEq,Nat.reduceAdd,beq_self_eq_true,true_and,and_true,true_implies,List.append_nil,List.nil_append,List.getElem?_cons_zero,List.getElem?_cons_succ,List.length_cons,List.length_nil,List.drop_zero,List.take_succ_cons,List.take_zero,and_self];done)|(simp;done)|skip
  · have d1 : decide (t.op = 1) = false:=decide_eq_false h1
    by_cases h2 : t.op = 2
    · have d2 : decide (t.op = 2) = true:=decide_eq_true h2
      rw [textB_text h2]
      have z1 : (⟨#[60]⟩ : ByteArray).size + t.s.size ≤ 4611686018427387904:=by rw [show (⟨#[60]⟩ : ByteArray).size = 1 from rfl];omega
      have z2 : (⟨#[60]⟩ : ByteArray).size + t.s.size + (⟨#[62]⟩ : ByteArray).size ≤ 4611686018427387904:=by rw [show (⟨#[60]⟩ : ByteArray).size = 1 from rfl,show (⟨#[62]⟩ : ByteArray).size = 1 from rfl];omega
      repeat' first|assumption|first|refine s_opt1 ?_|refine s_opt0 ?_|refine s_optq1 ?_|refine s_optq0 ?_|(refine s_norm ?_;try simp only [wsN,wsI,rmv,rng,X.ev,lkp,peel,cond_true,cond_false,nbeq,Nat.reduceBEq,Nat.reduceSub,Nat.reduceAdd,Nat.zero_add,Nat.sub_zero,Nat.sub_self,List.length_cons,List.length_nil,List.length_append,List.cons_append,List.nil_append,List.append_nil])|(refine s_take fun K hK => ?_)|(refine s_cons (fun K hK => ?_) ?_)|exact s_tnil|refine s_br ?_|refine s_done ?_|refine s_seq fun K hK => ?_|refine s_region ?_|refine s_draw ?_|refine s_tree ?_|refine s_op fun K hK => ?_|refine s_opq fun K hK => ?_|refine s_ops ?_|refine s_endq ?_|simp only [go_sem,Int.reduceToNat,Int.reduceEq,Nat.reduceAdd,Nat.reduceBEq,Nat.reduceLeDiff,Nat.reduceLT,Int.reduceLT,Int.reduceLE,Int.reduceNeg,reduceCtorEq,d1,d2]|(first|(refine hK _ ?_;clear hK K)|(clear hK K;refine hK _ ?_;clear hK K)|(clear hK K;clear hK K;refine hK _ ?_;clear hK K))|refine And.intro ?_ ?_
      all_goals first|(simp [go_sem,tids,A.tid,A.tid.go,List.cons_append,frzT,St.frz,A.sub,A.subL,O.sub,subT,subH,frzY,frzZ,Post,aret,evRs,RV.ev,tupA,A.Le,A.LeL,lkp,St.frzs,St.frz,A.ids,A.idsL,cond_true,cond_false,nbeq,nble,decide_true,decide_false,Nat.reduceLeDiff,Nat.reduceBEq,Nat.reduceAdd,beq_self_eq_true,true_and,and_true,true_implies,List.append_nil,List.nil_append,List.getElem?_cons_zero,List.getElem?_cons_succ,List.length_cons,List.length_nil,List.drop_zero,List.take_succ_cons,List.take_zero,and_self];done)|(simp;done)|skip
    · have d2 : decide (t.op = 2) = false:=decide_eq_false h2
      clear hs hd
      by_cases h3 : 3 ≤ t.op ∧ t.op ≤ 8
      · rw [textB_node h3]
        obtain ⟨jb,jz⟩:=join_end t hc
        have hj:=join_ct (textBs t.kids) jb
        have jz2:=Nat.le_trans (Nat.le_add_right _ _) jz
        have jz1:=Nat.le_trans (Nat.le_add_right _ _) jz2
        refine s_seq fun K hK => ?_;refine s_region ?_;simp only [go_sem,Int.reduceToNat,Int.reduceEq,Nat.reduceAdd,Nat.reduceBEq,Nat.reduceLeDiff,Nat.reduceLT,Int.reduceLT,Int.reduceLE,Int.reduceNeg,reduceCtorEq];refine hK _ ?_;clear hK K
        refine s_seq fun K hK => ?_;refine s_region ?_;simp only [go_sem,Int.reduceToNat,Int.reduceEq,Nat.reduceAdd,Nat.reduceBEq,Nat.reduceLeDiff,Nat.reduceLT,Int.reduceLT,Int.reduceLE,Int.reduceNeg,reduceCtorEq];refine hK _ ?_;clear hK K
        refine s_cut Unit (fun _ => ⟨[(1,.ptr 0 0),(3,.d true (.str (nameB t.op)))],[.box [.d false (.int .i64 t.op),.d false (.int .i64 t.n),.d false (.str t.s),.d false (.sl (encs t.kids))]]⟩) ?_ (fun _ => ?_)
        · clear hj jb jz jz2 jz1
          obtain ⟨h3,h8⟩:=h3
          have hcases : t.op = 3 ∨ t.op = 4 ∨ t.op = 5 ∨ t.op = 6 ∨ t.op = 7 ∨ t.op = 8:=by omega
          rcases hcases with ho|ho|ho|ho|ho|ho <;> rw [ho] at * <;> clear d1 d2
          all_goals
            repeat' first|assumption|first|refine s_opt1 ?_|refine s_opt0 ?_|refine s_optq1 ?_|refine s_optq0 ?_|(refine s_norm ?_;try simp only [wsN,wsI,rmv,rng,X.ev,lkp,peel,cond_true,cond_false,nbeq,Nat.reduceBEq,Nat.reduceSub,Nat.reduceAdd,Nat.zero_add,Nat.sub_zero,Nat.sub_self,List.length_cons,List.length_nil,List.length_append,List.cons_append,List.nil_append,List.append_nil])|(refine s_take fun K hK => ?_)|(refine s_cons (fun K hK => ?_) ?_)|exact s_tnil|refine s_br ?_|refine s_done ?_|refine s_seq fun K hK => ?_|refine s_region ?_|refine s_draw ?_|refine s_tree ?_|refine s_op fun K hK => ?_|refine s_opq fun K hK => ?_|refine s_ops ?_|refine s_endq ?_|simp only [go_sem,Int.reduceToNat,Int.reduceEq,Nat.reduceAdd,Nat.reduceBEq,Nat.reduceLeDiff,Nat.reduceLT,Int.reduceLT,Int.reduceLE,Int.reduceNeg,reduceCtorEq]|(first|(refine hK _ ?_;clear hK K)|(clear hK K;refine hK _ ?_;clear hK K)|(clear hK K;clear hK K;refine hK _ ?_;clear hK K))|refine And.intro ?_ ?_
            all_goals first|(refine ⟨(),?_⟩;simp [StLe,leT,leH,A.Le,A.LeL,O.Le,lkp,freeT,freeH,A.free,A.freeL,cond_true,cond_false,nbeq,nble,nblt,decide_true,decide_false,Nat.reduceLT,Nat.reduceBEq,true_and,and_true,List.length_cons,List.length_nil,true_implies,and_self,Bool.and_true,Bool.true_and,Bool.and_self,nameB];done)|(simp;done)|skip
        · repeat' first|assumption|first|refine s_opt1 ?_|refine s_opt0 ?_|refine s_optq1 ?_|refine s_optq0 ?_|(refine s_norm ?_;try simp only [wsN,wsI,rmv,rng,X.ev,lkp,peel,cond_true,cond_false,nbeq,Nat.reduceBEq,Nat.reduceSub,Nat.reduceAdd,Nat.zero_add,Nat.sub_zero,Nat.sub_self,List.length_cons,List.length_nil,List.length_append,List.cons_append,List.nil_append,List.append_nil])|(refine s_take fun K hK => ?_)|(refine s_cons (fun K hK => ?_) ?_)|exact s_tnil|refine s_br ?_|refine s_done ?_|refine s_seq fun K hK => ?_|refine s_region ?_|refine s_draw ?_|refine s_tree ?_|refine s_op fun K hK => ?_|refine s_opq fun K hK => ?_|refine s_ops ?_|refine s_endq ?_|simp only [go_sem,Int.reduceToNat,Int.reduceEq,Nat.reduceAdd,Nat.reduceBEq,Nat.reduceLeDiff,Nat.reduceLT,Int.reduceLT,Int.reduceLE,Int.reduceNeg,reduceCtorEq,encs_length]|(first|(refine hK _ ?_;clear hK K)|(clear hK K;refine hK _ ?_;clear hK K)|(clear hK K;clear hK K;refine hK _ ?_;clear hK K))|refine And.intro ?_ ?_
          all_goals first|(show awp _ _ _ _;skip)|(simp;done)
          refine s_loop { i : Nat // i ≤ t.kids.length } (fun i => ⟨[(3,.d true (.str (nameB t.op))),(4,.osl 1),(34,.d false (.sl (encs t.kids))),(35,.d true (.int .i64 t.kids.length)),(36,.d true (.int .i64 i.1))],[.box [.d false (.int .i64 t.op),.d false (.int .i64 t.n),.d false (.str t.s),.d false (.sl (encs t.kids))],.row true 9 1 (strDs (textBs (t.kids.take i.1)))]⟩) (fun i => t.kids.length - i.1) ⟨0,Nat.zero_le _⟩ ?_ ?_
          · simp [StLe,leT,leH,A.Le,A.LeL,O.Le,lkp,freeT,freeH,A.free,A.freeL,cond_true,cond_false,nbeq,nble,nblt,decide_true,decide_false,Nat.reduceLT,Nat.reduceBEq,true_and,and_true,List.length_cons,List.length_nil,true_implies,and_self,Bool.and_true,Bool.true_and,Bool.and_self,textBs,strDs]
          · rintro ⟨i,hi⟩ K1 hK1
            simp only
            by_cases hlt : i < t.kids.length
            · obtain ⟨e1,hw,⟨g1,g2⟩,y2,y3⟩:=join_facts t i hc hlt
              have hget : t.kids[i]? = some t.kids[i]:=List.getElem?_eq_getElem hlt
              have hc1:=ih _ (List.getElem_mem hlt)
              have hgd:=encs_getD t.kids i _ hget
              have hfin : ∀ σ',StLe σ' ⟨[(3,.d true (.str (nameB t.op))),(4,.osl 1),(34,.d false (.sl (encs t.kids))),(35,.d true (.int .i64 t.kids.length)),(36,.d true (.int .i64 ((i + 1 : Nat) : Int)))],[.box [.d false (.int .i64 t.op),.d false (.int .i64 t.n),.d false (.str t.s),.d false (.sl (encs t.kids))],.row true 9 1 (strDs (textBs (t.kids.take (i + 1))))]⟩ → K1 σ':=fun σ' h => hK1 σ' ⟨i + 1,hlt⟩ h (by simp;omega)
              clear hK1 hj jb jz jz2 jz1
              rw [textBs_snoc t.kids i hlt,strDs_snoc] at hfin
              generalize textB t.kids[i] = y at *
              generalize strDs (textBs (t.kids.take i)) = x at *
              repeat' first|assumption|first|refine s_opt1 ?_|refine s_opt0 ?_|refine s_optq1 ?_|refine s_optq0 ?_|(refine s_norm ?_;try simp only [wsN,wsI,rmv,rng,X.ev,lkp,peel,cond_true,cond_false,nbeq,Nat.reduceBEq,Nat.reduceSub,Nat.reduceAdd,Nat.zero_add,Nat.sub_zero,Nat.sub_self,List.length_cons,List.length_nil,List.length_append,List.cons_append,List.nil_append,List.append_nil])|(refine s_take fun K hK => ?_)|(refine s_cons (fun K hK => ?_) ?_)|exact s_tnil|refine s_br ?_|refine s_done ?_|refine s_seq fun K hK => ?_|refine s_region ?_|refine s_draw ?_|refine s_tree ?_|refine s_op fun K hK => ?_|refine s_opq fun K hK => ?_|refine s_ops ?_|refine s_endq ?_|simp only [go_sem,Int.reduceToNat,Int.reduceEq,Nat.reduceAdd,Nat.reduceBEq,Nat.reduceLeDiff,Nat.reduceLT,Int.reduceLT,Int.reduceLE,Int.reduceNeg,reduceCtorEq,e1,hw,encs_length,Int.toNat_natCast,hgd,Term.enc_eq]|(first|(refine hK _ ?_;clear hK K)|(clear hK K;refine hK _ ?_;clear hK K)|(clear hK K;clear hK K;refine hK _ ?_;clear hK K))|refine And.intro ?_ ?_|refine s_call hc1 ?_
              all_goals first|(refine hfin _ ?_;simp [StLe,leT,leH,A.Le,A.LeL,O.Le,lkp,freeT,freeH,A.free,A.freeL,cond_true,cond_false,nbeq,nble,nblt,decide_true,decide_false,Nat.reduceLT,Nat.reduceBEq,true_and,and_true,List.length_cons,List.length_nil,true_implies,and_self,Bool.and_true,Bool.true_and,Bool.and_self];done)|exact Nat.le_of_succ_le_succ y3|(simp;done)
            · have hil : i = t.kids.length:=by omega
              subst hil
              have e1 : decide ((t.kids.length : Int) < t.kids.length) = false:=decide_eq_false (Int.lt_irrefl _)
              rw [List.take_length]
              clear hK1
              generalize joinB (textBs t.kids) = x at *
              generalize strDs (textBs t.kids) = ds at *
              repeat' first|assumption|first|refine s_opt1 ?_|refine s_opt0 ?_|refine s_optq1 ?_|refine s_optq0 ?_|(refine s_norm ?_;try simp only [wsN,wsI,rmv,rng,X.ev,lkp,peel,cond_true,cond_false,nbeq,Nat.reduceBEq,Nat.reduceSub,Nat.reduceAdd,Nat.zero_add,Nat.sub_zero,Nat.sub_self,List.length_cons,List.length_nil,List.length_append,List.cons_append,List.nil_append,List.append_nil])|(refine s_take fun K hK => ?_)|(refine s_cons (fun K hK => ?_) ?_)|exact s_tnil|refine s_br ?_|refine s_done ?_|refine s_seq fun K hK => ?_|refine s_region ?_|refine s_draw ?_|refine s_tree ?_|refine s_op fun K hK => ?_|refine s_opq fun K hK => ?_|refine s_ops ?_|refine s_endq ?_|simp only [go_sem,Int.reduceToNat,Int.reduceEq,Nat.reduceAdd,Nat.reduceBEq,Nat.reduceLeDiff,Nat.reduceLT,Int.reduceLT,Int.reduceLE,Int.reduceNeg,reduceCtorEq,e1,encs_length]|(first|(refine hK _ ?_;clear hK K)|(clear hK K;refine hK _ ?_;clear hK K)|(clear hK K;clear hK K;refine hK _ ?_;clear hK K))|refine And.intro ?_ ?_|refine s_call hj ?_
              all_goals first|(simp [go_sem,tids,A.tid,A.tid.go,List.cons_append,frzT,St.frz,A.sub,A.subL,O.sub,subT,subH,frzY,frzZ,Post,aret,evRs,RV.ev,tupA,A.Le,A.LeL,lkp,St.frzs,St.frz,A.ids,A.idsL,cond_true,cond_false,nbeq,nble,decide_true,decide_false,Nat.reduceLeDiff,Nat.reduceBEq,Nat.reduceAdd,beq_self_eq_true,true_and,and_true,true_implies,List.append_nil,List.nil_append,List.getElem?_cons_zero,List.getElem?_cons_succ,List.length_cons,List.length_nil,List.drop_zero,List.take_succ_cons,List.take_zero,and_self];done)|(simp [go_sem,tids,A.tid,A.tid.go,List.cons_append,frzT,St.frz,A.sub,A.subL,O.sub,subT,subH,frzY,frzZ,Post,aret,evRs,RV.ev,tupA,A.Le,A.LeL,lkp,St.frzs,St.frz,A.ids,A.idsL,cond_true,cond_false,nbeq,nble,decide_true,decide_false,Nat.reduceLeDiff,Nat.reduceBEq,Nat.reduceAdd,beq_self_eq_true,true_and,and_true,true_implies,List.append_nil,List.nil_append,List.getElem?_cons_zero,List.getElem?_cons_succ,List.length_cons,List.length_nil,List.drop_zero,List.take_succ_cons,List.take_zero,and_self];done)|skip
      · rw [textB_none h1 h2 h3]
        have n3 : decide (t.op = 3) = false:=decide_eq_false (fun h => h3 (by omega))
        have n4 : decide (t.op = 4) = false:=decide_eq_false (fun h => h3 (by omega))
        have n5 : decide (t.op = 5) = false:=decide_eq_false (fun h => h3 (by omega))
        have n6 : decide (t.op = 6) = false:=decide_eq_false (fun h => h3 (by omega))
        have n7 : decide (t.op = 7) = false:=decide_eq_false (fun h => h3 (by omega))
        have n8 : decide (t.op = 8) = false:=decide_eq_false (fun h => h3 (by omega))
        repeat' first|assumption|first|refine s_opt1 ?_|refine s_opt0 ?_|refine s_optq1 ?_|refine s_optq0 ?_|(refine s_norm ?_;try simp only [wsN,wsI,rmv,rng,X.ev,lkp,peel,cond_true,cond_false,nbeq,Nat.reduceBEq,Nat.reduceSub,Nat.reduceAdd,Nat.zero_add,Nat.sub_zero,Nat.sub_self,List.length_cons,List.length_nil,List.length_append,List.cons_append,List.nil_append,List.append_nil])|(refine s_take fun K hK => ?_)|(refine s_cons (fun K hK => ?_) ?_)|exact s_tnil|refine s_br ?_|refine s_done ?_|refine s_seq fun K hK => ?_|refine s_region ?_|refine s_draw ?_|refine s_tree ?_|refine s_op fun K hK => ?_|refine s_opq fun K hK => ?_|refine s_ops ?_|refine s_endq ?_|simp only [go_sem,Int.reduceToNat,Int.reduceEq,Nat.reduceAdd,Nat.reduceBEq,Nat.reduceLeDiff,Nat.reduceLT,Int.reduceLT,Int.reduceLE,Int.reduceNeg,reduceCtorEq,d1,d2,n3,n4,n5,n6,n7,n8]|(first|(refine hK _ ?_;clear hK K)|(clear hK K;refine hK _ ?_;clear hK K)|(clear hK K;clear hK K;refine hK _ ?_;clear hK K))|refine And.intro ?_ ?_
        all_goals first|(simp [go_sem,tids,A.tid,A.tid.go,List.cons_append,frzT,St.frz,A.sub,A.subL,O.sub,subT,subH,frzY,frzZ,Post,aret,evRs,RV.ev,tupA,A.Le,A.LeL,lkp,St.frzs,St.frz,A.ids,A.idsL,cond_true,cond_false,nbeq,nble,decide_true,decide_false,Nat.reduceLeDiff,Nat.reduceBEq,Nat.reduceAdd,beq_self_eq_true,true_and,and_true,true_implies,List.append_nil,List.nil_append,List.getElem?_cons_zero,List.getElem?_cons_succ,List.length_cons,List.length_nil,List.drop_zero,List.take_succ_cons,List.take_zero,and_self];done)|(simp;done)|skip
theorem textT2_ct (t : Term) (hc : t.cnt ≤ 8388608) : Ct Tryd.prog 59 [t.v] (.d true (.str (textB t))):=by
  revert hc
  refine Term.ind (p:=fun t => t.cnt ≤ 8388608 → Ct Tryd.prog 59 [t.v] (.d true (.str (textB t)))) (fun t ih hc => textT2_of t hc (fun u hu => ih u hu ?_)) t
  have h1:=cnts_mem hu
  have h2:=Term.cnt_eq t
  omega
end Go.Proofs.YtlddcimpdkcgeaaDoor
