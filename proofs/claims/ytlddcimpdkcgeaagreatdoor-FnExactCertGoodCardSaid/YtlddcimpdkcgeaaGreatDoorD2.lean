/- Labels: the reference; which texts are labels. -/
import Derived.Test.YtlddcimpdkcgeaaGreatDoorD1
set_option linter.unusedVariables false
set_option linter.unusedSimpArgs false
set_option maxRecDepth 20000
set_option maxHeartbeats 4000000
namespace Go.Proofs.YtlddcimpdkcgeaaGreatDoor
open List (length_cons length_nil cons_append nil_append append_nil length_append)
open Nat (reduceLeDiff reduceAdd reduceLT reduceSub sub_self zero_add sub_zero)
open Int (reduceToNat reduceNeg reduceEq reduceLE toNat_natCast)
open Go Go.RowKit Sym
attribute [local irreducible] awp aops aopsQ gop gopQ gopO gopOQ gopV gopT awpN awpT awpTs ACall after
theorem bt_get {s : ByteArray} {i : Nat} (h : i < s.size) : ∃ c : UInt8,s.data.toList[i]? = some c ∧ btS s (i : Int) = (c.toNat : Int):=by
  have hl : i < s.data.toList.length:=by rw [← Lib.size_eq];exact h
  refine ⟨s.data.toList[i],List.getElem?_eq_getElem hl,?_⟩
  have : s[i]? = some s.data.toList[i]:=by
    rw [getElem?_pos s i h]
    rfl
  simp [btS,this]
theorem bt_is {s : ByteArray} {i : Nat} (h : i < s.size) (k : UInt8) : decide (btS s (i : Int) = (k.toNat : Int)) = decide (s.data.toList[i]? = some k):=by
  obtain ⟨c,h1,h2⟩:=bt_get h
  rw [h1,h2]
  refine decide_eq_decide.2 ⟨fun e => ?_,fun e => ?_⟩
  · rw [UInt8.toNat_inj.1 (by omega : c.toNat = k.toNat)]
  · rw [Option.some.inj e]
def LabI (s : ByteArray) (out : List ByteArray) (f i : Nat) : Prop :=
  i ≤ s.size + 1 ∧ f ≤ i ∧ out.length ≤ f ∧ (∀ j,f ≤ j → j < i → s.data.toList[j]? ≠ some 46) ∧ (i ≤ s.size → out ++ labsL (s.data.toList.drop f) = labs s) ∧ (s.size < i → out = labs s)
theorem ext_mk (s : ByteArray) (f i : Nat) : s.extract f i = mkB ((s.data.toList.drop f).take (i - f)):=mkB_inj (Lib.extract_data s f i)
theorem labI_no {s : ByteArray} {out : List ByteArray} {f i : Nat} (h : LabI s out f i) (hi : i < s.size) (hn : s.data.toList[i]? ≠ some 46) : LabI s out f (i + 1):=by
  obtain ⟨h1,h2,h3,h4,h5,h6⟩:=h
  refine ⟨by omega,by omega,h3,fun j hj1 hj2 => ?_,fun _ => h5 (by omega),fun h => by omega⟩
  by_cases hj : j = i
  · rw [hj];exact hn
  · exact h4 j hj1 (by omega)
theorem labI_end {s : ByteArray} {out : List ByteArray} {f : Nat} (h : LabI s out f s.size) : LabI s (out ++ [s.extract f s.size]) (s.size + 1) (s.size + 1):=by
  obtain ⟨h1,h2,h3,h4,h5,h6⟩:=h
  have hall : ∀ x,x ∈ s.data.toList.drop f → x ≠ 46:=by
    intro x hx e
    obtain ⟨j,hj⟩:=List.mem_iff_getElem?.1 hx
    rw [List.getElem?_drop] at hj
    have hlt:=(List.getElem?_eq_some_iff.1 hj).1
    rw [← Lib.size_eq] at hlt
    exact h4 (f + j) (by omega) hlt (by rw [hj,e])
  refine ⟨by omega,by omega,by simp;omega,fun j hj1 hj2 => by omega,fun h => by omega,fun _ => ?_⟩
  have:=h5 (Nat.le_refl _)
  rw [labsL_none hall] at this
  rw [← this,ext_mk,List.take_of_length_le (by rw [List.length_drop,← Lib.size_eq];exact Nat.le_refl _)]
theorem labI_dot {s : ByteArray} {out : List ByteArray} {f i : Nat} (h : LabI s out f i) (hi : i < s.size) (hd : s.data.toList[i]? = some 46) : LabI s (out ++ [s.extract f i]) (i + 1) (i + 1):=by
  obtain ⟨h1,h2,h3,h4,h5,h6⟩:=h
  refine ⟨by omega,by omega,by simp;omega,fun j hj1 hj2 => by omega,fun _ => ?_,fun h => by omega⟩
  have h5:=h5 (by omega)
  have hsp : s.data.toList.drop f = (s.data.toList.drop f).take (i - f) ++ 46 :: s.data.toList.drop (i + 1):=by
    have hl : i < s.data.toList.length:=by rw [← Lib.size_eq];exact hi
    have : (s.data.toList.drop f).drop (i - f) = 46 :: s.data.toList.drop (i + 1):=by
      rw [List.drop_drop,show f + (i - f) = i by omega,List.drop_eq_getElem_cons hl]
      rw [List.getElem?_eq_getElem hl] at hd
      rw [Option.some.inj hd]
    rw [← this,List.take_append_drop]
  have hall : ∀ x,x ∈ (s.data.toList.drop f).take (i - f) → x ≠ 46:=by
    intro x hx e
    obtain ⟨j,hj⟩:=List.mem_iff_getElem?.1 hx
    rw [List.getElem?_take] at hj
    split at hj
    · rename_i hlt
      rw [List.getElem?_drop] at hj
      exact h4 (f + j) (by omega) (by omega) (by rw [hj,e])
    · cases hj
  rw [hsp,labsL_cons hall] at h5
  rw [List.append_assoc,List.singleton_append,ext_mk]
  exact h5
theorem encStr_snoc (ss : List ByteArray) (s : ByteArray) : encStr ss ++ [[.str s]] = encStr (ss ++ [s]):=by simp [encStr]
theorem labels1_ct (s : ByteArray) (hs : s.size ≤ 1048576) : Ct Tryz.prog 104 [.d false (.str s)] (.d true (.sl (encStr (labs s)))):=by
  refine ok104.ct mo Tryz.func104 (by simp) rfl fun hok => ?_
  unfold ac104
  repeat' first|first|refine s_opt1 ?_|refine s_opt0 ?_|refine s_optq1 ?_|refine s_optq0 ?_|(refine s_norm ?_;try simp only [wsN,wsI,rmv,rng,X.ev,lkp,peel,cond_true,cond_false,nbeq,Nat.reduceBEq,reduceSub,reduceAdd,zero_add,sub_zero,sub_self,length_cons,length_nil,length_append,cons_append,nil_append,append_nil])|(refine s_take fun K hK => ?_)|(refine s_cons (fun K hK => ?_) ?_)|exact s_tnil|refine s_br ?_|refine s_done ?_|refine s_seq fun K hK => ?_|refine s_region ?_|refine s_draw ?_|refine s_tree ?_|refine s_op fun K hK => ?_|refine s_opq fun K hK => ?_|refine s_ops ?_|refine s_endq ?_|simp only [go_sem,reduceToNat,reduceEq,reduceAdd,Nat.reduceBEq,reduceLeDiff,reduceLT,Int.reduceLT,reduceLE,reduceNeg,reduceCtorEq]|(first|(refine hK _ ?_;clear hK K)|(clear hK K;refine hK _ ?_;clear hK K)|(clear hK K;clear hK K;refine hK _ ?_;clear hK K))|refine And.intro ?_ ?_
  all_goals first|(intros;trivial;done)|(simp;done)|skip
  refine s_loop { p : List ByteArray × Nat × Nat // LabI s p.1 p.2.1 p.2.2 } (fun p => ⟨[(0,.d false (.str s)),(3,.osl 1),(4,.d true (.int .i64 p.1.2.1)),(5,.d true (.int .i64 p.1.2.2))],[.dead,.row true 9 1 (encStr p.1.1)]⟩) (fun p => s.size + 1 - p.1.2.2) ⟨([],0,0),by simp [LabI,labs]⟩ ?_ ?_
  · simp [StLe,leT,leH,A.Le,A.LeL,O.Le,lkp,freeT,freeH,A.free,A.freeL,cond_true,cond_false,nbeq,nble,nblt,decide_true,decide_false,reduceLT,Nat.reduceBEq,true_and,and_true,length_cons,length_nil,true_implies,and_self,Bool.and_true,Bool.true_and,Bool.and_self,encStr]
  · rintro ⟨⟨out,f,i⟩,hI⟩ K1 hK1
    have hI0:=hI
    obtain ⟨h1,h2,h3,h4,h5,h6⟩:=hI0
    simp only
    simp only at h1 h2 h3 h4 h5 h6
    have hw : wrap64 ((i : Int) + 1) = ((i + 1 : Nat) : Int):=by rw [w64 (by omega) (by omega)];omega
    by_cases hle : i ≤ s.size
    · have d1 : decide ((i : Int) ≤ s.size) = true:=decide_eq_true (by omega)
      by_cases he : i = s.size
      · subst he
        have d2 : decide ((s.size : Int) = s.size) = true:=decide_eq_true rfl
        repeat' first|first|refine s_opt1 ?_|refine s_opt0 ?_|refine s_optq1 ?_|refine s_optq0 ?_|(refine s_norm ?_;try simp only [wsN,wsI,rmv,rng,X.ev,lkp,peel,cond_true,cond_false,nbeq,Nat.reduceBEq,reduceSub,reduceAdd,zero_add,sub_zero,sub_self,length_cons,length_nil,length_append,cons_append,nil_append,append_nil])|(refine s_take fun K hK => ?_)|(refine s_cons (fun K hK => ?_) ?_)|exact s_tnil|refine s_br ?_|refine s_done ?_|refine s_seq fun K hK => ?_|refine s_region ?_|refine s_draw ?_|refine s_tree ?_|refine s_op fun K hK => ?_|refine s_opq fun K hK => ?_|refine s_ops ?_|refine s_endq ?_|simp only [go_sem,reduceToNat,reduceEq,reduceAdd,Nat.reduceBEq,reduceLeDiff,reduceLT,Int.reduceLT,reduceLE,reduceNeg,reduceCtorEq,d1,d2,hw,encStr_length,encStr_snoc,toNat_natCast]|(first|(refine hK _ ?_;clear hK K)|(clear hK K;refine hK _ ?_;clear hK K)|(clear hK K;clear hK K;refine hK _ ?_;clear hK K))|refine And.intro ?_ ?_
        all_goals first|(refine hK1 _ ⟨(out ++ [s.extract f s.size],s.size + 1,s.size + 1),labI_end hI⟩ ?_ (by simp) <;> simp [StLe,leT,leH,A.Le,A.LeL,O.Le,lkp,freeT,freeH,A.free,A.freeL,cond_true,cond_false,nbeq,nble,nblt,decide_true,decide_false,reduceLT,Nat.reduceBEq,true_and,and_true,length_cons,length_nil,true_implies,and_self,Bool.and_true,Bool.true_and,Bool.and_self])|omega|(simp;done)|(simp [encStr_length];omega)|skip
      · have d2 : decide ((i : Int) = s.size) = false:=decide_eq_false (by omega)
        have hlt : i < s.size:=by omega
        have hb:=bt_is hlt 46
        by_cases hd : s.data.toList[i]? = some 46
        · have d3 : decide (btS s (i : Int) = 46) = true:=by have:=bt_is hlt 46;rw [decide_eq_true hd] at this;exact this
          repeat' first|first|refine s_opt1 ?_|refine s_opt0 ?_|refine s_optq1 ?_|refine s_optq0 ?_|(refine s_norm ?_;try simp only [wsN,wsI,rmv,rng,X.ev,lkp,peel,cond_true,cond_false,nbeq,Nat.reduceBEq,reduceSub,reduceAdd,zero_add,sub_zero,sub_self,length_cons,length_nil,length_append,cons_append,nil_append,append_nil])|(refine s_take fun K hK => ?_)|(refine s_cons (fun K hK => ?_) ?_)|exact s_tnil|refine s_br ?_|refine s_done ?_|refine s_seq fun K hK => ?_|refine s_region ?_|refine s_draw ?_|refine s_tree ?_|refine s_op fun K hK => ?_|refine s_opq fun K hK => ?_|refine s_ops ?_|refine s_endq ?_|simp only [go_sem,reduceToNat,reduceEq,reduceAdd,Nat.reduceBEq,reduceLeDiff,reduceLT,Int.reduceLT,reduceLE,reduceNeg,reduceCtorEq,d1,d2,d3,hw,encStr_length,encStr_snoc,toNat_natCast]|(first|(refine hK _ ?_;clear hK K)|(clear hK K;refine hK _ ?_;clear hK K)|(clear hK K;clear hK K;refine hK _ ?_;clear hK K))|refine And.intro ?_ ?_
          all_goals first|(refine hK1 _ ⟨(out ++ [s.extract f i],i + 1,i + 1),labI_dot hI hlt hd⟩ ?_ (by simp;omega) <;> simp [StLe,leT,leH,A.Le,A.LeL,O.Le,lkp,freeT,freeH,A.free,A.freeL,cond_true,cond_false,nbeq,nble,nblt,decide_true,decide_false,reduceLT,Nat.reduceBEq,true_and,and_true,length_cons,length_nil,true_implies,and_self,Bool.and_true,Bool.true_and,Bool.and_self])|omega|(simp;done)|(simp [encStr_length];omega)|skip
        · have d3 : decide (btS s (i : Int) = 46) = false:=by have:=bt_is hlt 46;rw [decide_eq_false hd] at this;exact this
          repeat' first|first|refine s_opt1 ?_|refine s_opt0 ?_|refine s_optq1 ?_|refine s_optq0 ?_|(refine s_norm ?_;try simp only [wsN,wsI,rmv,rng,X.ev,lkp,peel,cond_true,cond_false,nbeq,Nat.reduceBEq,reduceSub,reduceAdd,zero_add,sub_zero,sub_self,length_cons,length_nil,length_append,cons_append,nil_append,append_nil])|(refine s_take fun K hK => ?_)|(refine s_cons (fun K hK => ?_) ?_)|exact s_tnil|refine s_br ?_|refine s_done ?_|refine s_seq fun K hK => ?_|refine s_region ?_|refine s_draw ?_|refine s_tree ?_|refine s_op fun K hK => ?_|refine s_opq fun K hK => ?_|refine s_ops ?_|refine s_endq ?_|simp only [go_sem,reduceToNat,reduceEq,reduceAdd,Nat.reduceBEq,reduceLeDiff,reduceLT,Int.reduceLT,reduceLE,reduceNeg,reduceCtorEq,d1,d2,d3,hw,encStr_length,encStr_snoc,toNat_natCast]|(first|(refine hK _ ?_;clear hK K)|(clear hK K;refine hK _ ?_;clear hK K)|(clear hK K;clear hK K;refine hK _ ?_;clear hK K))|refine And.intro ?_ ?_
          all_goals first|(refine hK1 _ ⟨(out,f,i + 1),labI_no hI hlt hd⟩ ?_ (by simp;omega) <;> simp [StLe,leT,leH,A.Le,A.LeL,O.Le,lkp,freeT,freeH,A.free,A.freeL,cond_true,cond_false,nbeq,nble,nblt,decide_true,decide_false,reduceLT,Nat.reduceBEq,true_and,and_true,length_cons,length_nil,true_implies,and_self,Bool.and_true,Bool.true_and,Bool.and_self])|omega|(simp;done)|(simp [encStr_length];omega)|skip
    · have d1 : decide ((i : Int) ≤ s.size) = false:=decide_eq_false (by omega)
      have he:=h6 (by omega)
      repeat' first|first|refine s_opt1 ?_|refine s_opt0 ?_|refine s_optq1 ?_|refine s_optq0 ?_|(refine s_norm ?_;try simp only [wsN,wsI,rmv,rng,X.ev,lkp,peel,cond_true,cond_false,nbeq,Nat.reduceBEq,reduceSub,reduceAdd,zero_add,sub_zero,sub_self,length_cons,length_nil,length_append,cons_append,nil_append,append_nil])|(refine s_take fun K hK => ?_)|(refine s_cons (fun K hK => ?_) ?_)|exact s_tnil|refine s_br ?_|refine s_done ?_|refine s_seq fun K hK => ?_|refine s_region ?_|refine s_draw ?_|refine s_tree ?_|refine s_op fun K hK => ?_|refine s_opq fun K hK => ?_|refine s_ops ?_|refine s_endq ?_|simp only [go_sem,reduceToNat,reduceEq,reduceAdd,Nat.reduceBEq,reduceLeDiff,reduceLT,Int.reduceLT,reduceLE,reduceNeg,reduceCtorEq,d1]|(first|(refine hK _ ?_;clear hK K)|(clear hK K;refine hK _ ?_;clear hK K)|(clear hK K;clear hK K;refine hK _ ?_;clear hK K))|refine And.intro ?_ ?_
      all_goals first|(simp [go_sem,tids,A.tid,A.tid.go,cons_append,frzT,St.frz,A.sub,A.subL,O.sub,subT,subH,frzY,frzZ,Post,aret,evRs,RV.ev,tupA,A.Le,A.LeL,lkp,St.frzs,A.ids,A.idsL,cond_true,cond_false,nbeq,nble,decide_true,decide_false,reduceLeDiff,Nat.reduceBEq,reduceAdd,beq_self_eq_true,true_and,and_true,true_implies,append_nil,nil_append,List.getElem?_cons_zero,List.getElem?_cons_succ,length_cons,length_nil,List.drop_zero,List.take_succ_cons,List.take_zero,and_self];done)|(simp [A.LeL,← he];done)|skip
end Go.Proofs.YtlddcimpdkcgeaaGreatDoor
