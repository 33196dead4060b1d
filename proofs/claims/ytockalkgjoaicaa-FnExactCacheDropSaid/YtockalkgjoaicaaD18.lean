/- Copies of policies by the program. -/
import Derived.Test.YtockalkgjoaicaaD17
import Derived.Test.YtockalkgjoaicaaShelf
set_option linter.unusedVariables false
set_option linter.unusedSimpArgs false
set_option maxRecDepth 20000
set_option maxHeartbeats 4000000
namespace Go.Proofs.Ytockalkgjoaicaa
open Go Go.RowKit Sym
theorem own_of_row {w : World} {B ety : Nat} {v : Value} {ss : List ByteArray} (h : w.ownsRow B ety 1 v ss.length (ss.map Value.string)) (hs : ∀ s,s ∈ ss → s.size ≤ 4611686018427387904) (hl : ss.length ≤ 140737488355328) :
    ∃ F,OwnL w [v] [.sl (encStr ss)] F ∧ F.Nodup ∧ ∀ b,b ∈ F → B ≤ b ∧ b < w.heap.size:=by
  obtain ⟨h1,⟨rfl,h2⟩|⟨g,cap,cur,rfl,h3,h4,h5,h6,h7,h8⟩⟩:=h
  · have : ss = []:=List.eq_nil_of_length_eq_zero h2
    subst this
    exact ⟨[],.none _ _ [] [] [] .nil,List.nodup_nil,fun b hb => by cases hb⟩
  · by_cases h0 : ss.length = 0
    · have : ss = []:=List.eq_nil_of_length_eq_zero h0
      subst this
      exact ⟨[],.none _ _ [] [] [] .nil,List.nodup_nil,fun b hb => by cases hb⟩
    · refine ⟨[g],?_,by simp,fun b hb => ?_⟩
      · have:=OwnL.sl (w:=w) g cap cur ety 1 (encStr ss) [] [] [] [] (by rw [encStr_length];omega) h4 (encStr_each _) (by rw [encStr_length];exact h5) h6 h7 (by rw [encStr_length];exact hl) (by rw [encStr_length,encStr_flat,h8];exact own_strs_mk hs) .nil
        rw [encStr_length] at this
        simpa using this
      · simp only [List.mem_singleton] at hb
        subst hb
        exact ⟨h3,(Array.getElem?_eq_some_iff.1 h4).1⟩
theorem cloneStr_ct (ss : List ByteArray) (hl : ss.length ≤ 1048576) : Ct Try.prog 26 [.d false (.sl (encStr ss))] (.d true (.sl (encStr ss))):=by
  refine ⟨⟨_,Try.func26,rfl,rfl⟩,fun w ok vs hL hok hv => ?_⟩
  match vs,hv with
  | [v1],hv =>
    simp only [VSimL,VSim,and_true] at hv
    have hsz:=encStr_ok (show D.OkLL (encStr ss) by have:=hv.ok;simp only [D.Ok] at this;exact this.2)
    obtain ⟨a,c,rfl,hc1,hc2,hc3⟩:=hv.cells
    rw [encStr_length] at *
    have fin : ∀ (w' : World) (v' : Value),w'.ownsRow w.heap.size 9 1 v' ss.length (ss.map Value.string) → Below w.heap.size w w' →
        ∃ v,Ending.returned v' = .returned v ∧ Ext w w' ∧ VSim w' (fun b => b < w'.heap.size ∧ (ok b ∨ w.heap.size ≤ b)) w.heap.size [] (.d true (.sl (encStr ss))) v:=by
      intro w' v' h1 h2
      obtain ⟨F,g1,g2,g3⟩:=own_of_row h1 hsz (by omega)
      exact ⟨v',rfl,Fr.of_below h2,F,g1,g2,fun b hb => ⟨⟨(g3 b hb).2,.inr (g3 b hb).1⟩,(g3 b hb).1⟩⟩
    by_cases h0 : 0 < ss.length
    · obtain ⟨b,o,us,rfl,_,g1,g2⟩:=hc3 1 (encStr_each ss) h0
      rw [encStr_flat] at g2
      have hus : us = ss.map Value.string:=by
        have hlen:=g2.length
        refine List.ext_getElem? fun i => ?_
        rcases Nat.lt_or_ge i us.length with hi|hi
        · have hi2 : i < ss.length:=by rw [hlen] at hi;simpa using hi
          obtain ⟨u,hu,hr⟩:=g2.get (i:=i) (d:=.str ss[i]) (by simp [hi2])
          rw [hu]
          cases hr
          simp [hi2]
        · rw [List.getElem?_eq_none hi,List.getElem?_eq_none (by rw [hlen] at hi;simpa using hi)]
      refine (Try.slices_Clone_string b o ss.length c ss w (Nat.le_refl _) (by omega) (fun j hj => ?_)).mono ?_
      · refine g1 j _ ?_
        rw [hus]
        simp [hj,List.getD_eq_getElem?_getD]
      · rintro e w' ⟨v',rfl,h1,_,h2⟩
        rw [List.take_length] at h1
        exact fin w' v' h1 h2
    · have hnil : ss = []:=List.eq_nil_of_length_eq_zero (by omega)
      subst hnil
      cases a with
      | none =>
        refine (Try.slices_Clone_string_nil 0 c w).mono ?_
        rintro e w' ⟨rfl,rfl⟩
        exact fin _ _ ⟨rfl,.inl ⟨rfl,rfl⟩⟩ (Below.refl _ _)
      | some a =>
        refine (Try.slices_Clone_string_zero a c w).mono ?_
        rintro e w' ⟨v',rfl,h1,_,h2⟩
        exact fin w' v' h1 h2
  | [],hv => simp [VSimL] at hv
  | _ :: _ :: _,hv => simp [VSimL] at hv
attribute [local irreducible] awp aops aopsQ gop gopQ gopO gopOQ gopV gopT awpN awpT awpTs ACall after
theorem clonePolicy_ct (p : Policy) (h : p.cnt ≤ 1048576) : Ct Try.prog 24 [p.v] p.w:=by
  have hc:=cloneStr_ct p.mx (by unfold Policy.cnt at h;omega)
  refine ok24.ct mo Try.func24 (by simp) rfl fun hok => ?_
  unfold ac24
  simp only [Policy.v_eq,Policy.w_eq] at *
  repeat' first|assumption|first|refine s_opt1 ?_|refine s_opt0 ?_|refine s_optq1 ?_|refine s_optq0 ?_|(refine s_norm ?_;try simp only [wsN,wsI,rmv,rng,X.ev,lkp,peel,cond_true,cond_false,nbeq,Nat.reduceBEq,Nat.reduceSub,Nat.reduceAdd,Nat.zero_add,Nat.sub_zero,Nat.sub_self,List.length_cons,List.length_nil,List.length_append,List.cons_append,List.nil_append,List.append_nil])|(refine s_take fun K hK => ?_)|(refine s_cons (fun K hK => ?_) ?_)|exact s_tnil|refine s_br ?_|refine s_done ?_|refine s_seq fun K hK => ?_|refine s_region ?_|refine s_draw ?_|refine s_tree ?_|refine s_op fun K hK => ?_|refine s_opq fun K hK => ?_|refine s_ops ?_|refine s_endq ?_|simp only [go_sem,Int.reduceToNat,Int.reduceEq,Nat.reduceAdd,Nat.reduceBEq,Nat.reduceLeDiff,Nat.reduceLT,Int.reduceLT,Int.reduceLE,Int.reduceNeg,reduceCtorEq]|(first|(refine hK _ ?_;clear hK K)|(clear hK K;refine hK _ ?_;clear hK K)|(clear hK K;clear hK K;refine hK _ ?_;clear hK K))|refine And.intro ?_ ?_|refine s_call hc ?_
  all_goals first|(simp [go_sem,tids,A.tid,A.tid.go,List.cons_append,frzT,St.frz,A.sub,A.subL,O.sub,subT,subH,frzY,frzZ,Post,aret,evRs,RV.ev,tupA,A.Le,A.LeL,lkp,St.frzs,St.frz,A.ids,A.idsL,cond_true,cond_false,nbeq,nble,decide_true,decide_false,Nat.reduceLeDiff,Nat.reduceBEq,Nat.reduceAdd,beq_self_eq_true,true_and,and_true,true_implies,List.append_nil,List.nil_append,List.getElem?_cons_zero,List.getElem?_cons_succ,List.length_cons,List.length_nil,List.drop_zero,List.take_succ_cons,List.take_zero,and_self];done)|(simp [A.LeL];done)|skip
theorem cloneCache_ct (ps : List Policy) (h : ps.length + cntPs ps ≤ 1048576) : Ct Try.prog 15 [.d false (.sl (encPs ps))] (.d true (.sl (encPs ps))):=by
  refine ok15.ct mo Try.func15 (by simp) rfl fun hok => ?_
  unfold ac15
  repeat' first|first|refine s_opt1 ?_|refine s_opt0 ?_|refine s_optq1 ?_|refine s_optq0 ?_|(refine s_norm ?_;try simp only [wsN,wsI,rmv,rng,X.ev,lkp,peel,cond_true,cond_false,nbeq,Nat.reduceBEq,Nat.reduceSub,Nat.reduceAdd,Nat.zero_add,Nat.sub_zero,Nat.sub_self,List.length_cons,List.length_nil,List.length_append,List.cons_append,List.nil_append,List.append_nil])|(refine s_take fun K hK => ?_)|(refine s_cons (fun K hK => ?_) ?_)|exact s_tnil|refine s_br ?_|refine s_done ?_|refine s_seq fun K hK => ?_|refine s_region ?_|refine s_draw ?_|refine s_tree ?_|refine s_op fun K hK => ?_|refine s_opq fun K hK => ?_|refine s_ops ?_|refine s_endq ?_|simp only [go_sem,Int.reduceToNat,Int.reduceEq,Nat.reduceAdd,Nat.reduceBEq,Nat.reduceLeDiff,Nat.reduceLT,Int.reduceLT,Int.reduceLE,Int.reduceNeg,reduceCtorEq,encPs_length]|(first|(refine hK _ ?_;clear hK K)|(clear hK K;refine hK _ ?_;clear hK K)|(clear hK K;clear hK K;refine hK _ ?_;clear hK K))|refine And.intro ?_ ?_
  all_goals first|(simp;done)|skip
  refine s_loop { i : Nat // i ≤ ps.length } (fun i => ⟨[(3,.osl 1),(6,.d false (.sl (encPs ps))),(7,.d true (.int .i64 ps.length)),(8,.d true (.int .i64 i.1))],[.dead,.row true 34 4 (encPs (ps.take i.1))]⟩) (fun i => ps.length - i.1) ⟨0,Nat.zero_le _⟩ ?_ ?_
  · simp [StLe,leT,leH,A.Le,A.LeL,O.Le,lkp,freeT,freeH,A.free,A.freeL,cond_true,cond_false,nbeq,nble,nblt,decide_true,decide_false,Nat.reduceLT,Nat.reduceBEq,true_and,and_true,List.length_cons,List.length_nil,true_implies,and_self,Bool.and_true,Bool.true_and,Bool.and_self,encPs]
  · rintro ⟨i,hi⟩ K1 hK1
    simp only
    have hw : wrap64 ((i : Int) + 1) = ((i + 1 : Nat) : Int):=by rw [w64 (by omega) (by omega)];omega
    by_cases hlt : i < ps.length
    · have d1 : decide ((i : Int) < ps.length) = true:=decide_eq_true (by omega)
      have hget : ps[i]? = some ps[i]:=List.getElem?_eq_getElem hlt
      have hgd:=encPs_getD ps i _ hget
      have hc:=clonePolicy_ct ps[i] (by have:=cntPs_mem (List.getElem_mem hlt);omega)
      have hfin:=fun σ' (h : StLe σ' ⟨[(3,.osl 1),(6,.d false (.sl (encPs ps))),(7,.d true (.int .i64 ps.length)),(8,.d true (.int .i64 ((i + 1 : Nat) : Int)))],[.dead,.row true 34 4 (encPs (ps.take (i + 1)))]⟩) => hK1 σ' ⟨i + 1,hlt⟩ h (by simp;omega)
      rw [← encPs_snoc ps i hlt] at hfin
      have hkl : (encPs (ps.take i)).length ≤ 1048576:=by rw [encPs_length,List.length_take];omega
      have hke:=encPs_each (ps.take i)
      have hin : (0 : Int) ≤ (i : Int) ∧ (i : Int) < ps.length:=⟨by omega,by omega⟩
      rw [Policy.enc_eq] at hgd hfin
      simp only [Policy.v_eq,Policy.w_eq] at hc
      clear hK1
      generalize ps[i] = p at *
      generalize encPs (ps.take i) = kk at *
      repeat' first|first|refine s_opt1 ?_|refine s_opt0 ?_|refine s_optq1 ?_|refine s_optq0 ?_|(refine s_norm ?_;try simp only [wsN,wsI,rmv,rng,X.ev,lkp,peel,cond_true,cond_false,nbeq,Nat.reduceBEq,Nat.reduceSub,Nat.reduceAdd,Nat.zero_add,Nat.sub_zero,Nat.sub_self,List.length_cons,List.length_nil,List.length_append,List.cons_append,List.nil_append,List.append_nil])|(refine s_take fun K hK => ?_)|(refine s_cons (fun K hK => ?_) ?_)|exact s_tnil|refine s_br ?_|refine s_done ?_|refine s_seq fun K hK => ?_|refine s_region ?_|refine s_draw ?_|refine s_tree ?_|refine s_op fun K hK => ?_|refine s_opq fun K hK => ?_|refine s_ops ?_|refine s_endq ?_|simp only [go_sem,Int.reduceToNat,Int.reduceEq,Nat.reduceAdd,Nat.reduceBEq,Nat.reduceLeDiff,Nat.reduceLT,Int.reduceLT,Int.reduceLE,Int.reduceNeg,reduceCtorEq,d1,hw,encPs_length,Int.toNat_natCast,hgd]|(first|(refine hK _ ?_;clear hK K)|(clear hK K;refine hK _ ?_;clear hK K)|(clear hK K;clear hK K;refine hK _ ?_;clear hK K))|refine And.intro ?_ ?_|refine s_call hc ?_
      all_goals first|(refine hfin _ ?_;simp [StLe,leT,leH,A.Le,A.LeL,O.Le,lkp,freeT,freeH,A.free,A.freeL,cond_true,cond_false,nbeq,nble,nblt,decide_true,decide_false,Nat.reduceLT,Nat.reduceBEq,true_and,and_true,List.length_cons,List.length_nil,true_implies,and_self,Bool.and_true,Bool.true_and,Bool.and_self];done)|exact hin|exact hin.1|exact hin.2|assumption|omega|(simp;done)|(simp;omega)|(intro l hl;simp only [List.mem_singleton] at hl;subst hl;rfl)|skip
    · have d1 : decide ((i : Int) < ps.length) = false:=decide_eq_false (by omega)
      have hie : i = ps.length:=by omega
      subst hie
      rw [List.take_length]
      clear hK1
      generalize encPs ps = kk at *
      repeat' first|first|refine s_opt1 ?_|refine s_opt0 ?_|refine s_optq1 ?_|refine s_optq0 ?_|(refine s_norm ?_;try simp only [wsN,wsI,rmv,rng,X.ev,lkp,peel,cond_true,cond_false,nbeq,Nat.reduceBEq,Nat.reduceSub,Nat.reduceAdd,Nat.zero_add,Nat.sub_zero,Nat.sub_self,List.length_cons,List.length_nil,List.length_append,List.cons_append,List.nil_append,List.append_nil])|(refine s_take fun K hK => ?_)|(refine s_cons (fun K hK => ?_) ?_)|exact s_tnil|refine s_br ?_|refine s_done ?_|refine s_seq fun K hK => ?_|refine s_region ?_|refine s_draw ?_|refine s_tree ?_|refine s_op fun K hK => ?_|refine s_opq fun K hK => ?_|refine s_ops ?_|refine s_endq ?_|simp only [go_sem,Int.reduceToNat,Int.reduceEq,Nat.reduceAdd,Nat.reduceBEq,Nat.reduceLeDiff,Nat.reduceLT,Int.reduceLT,Int.reduceLE,Int.reduceNeg,reduceCtorEq,d1]|(first|(refine hK _ ?_;clear hK K)|(clear hK K;refine hK _ ?_;clear hK K)|(clear hK K;clear hK K;refine hK _ ?_;clear hK K))|refine And.intro ?_ ?_
      all_goals first|(simp [go_sem,tids,A.tid,A.tid.go,List.cons_append,frzT,St.frz,A.sub,A.subL,O.sub,subT,subH,frzY,frzZ,Post,aret,evRs,RV.ev,tupA,A.Le,A.LeL,lkp,St.frzs,St.frz,A.ids,A.idsL,cond_true,cond_false,nbeq,nble,decide_true,decide_false,Nat.reduceLeDiff,Nat.reduceBEq,Nat.reduceAdd,beq_self_eq_true,true_and,and_true,true_implies,List.append_nil,List.nil_append,List.getElem?_cons_zero,List.getElem?_cons_succ,List.length_cons,List.length_nil,List.drop_zero,List.take_succ_cons,List.take_zero,and_self];done)|(simp [go_sem,tids,A.tid,A.tid.go,List.cons_append,frzT,St.frz,A.sub,A.subL,O.sub,subT,subH,frzY,frzZ,Post,aret,evRs,RV.ev,tupA,A.Le,A.LeL,lkp,St.frzs,St.frz,A.ids,A.idsL,cond_true,cond_false,nbeq,nble,decide_true,decide_false,Nat.reduceLeDiff,Nat.reduceBEq,Nat.reduceAdd,beq_self_eq_true,true_and,and_true,true_implies,List.append_nil,List.nil_append,List.getElem?_cons_zero,List.getElem?_cons_succ,List.length_cons,List.length_nil,List.drop_zero,List.take_succ_cons,List.take_zero,and_self];done)|skip
end Go.Proofs.Ytockalkgjoaicaa
