/- The text of a term. -/
import Derived.Test.YtlddcimpdkcgeaaDoorD7
import Derived.Test.YtlddcimpdkcgeaaDoorT1
import Derived.Test.YtlddcimpdkcgeaaDoorS13
import Derived.Test.YtlddcimpdkcgeaaDoorProg
import Derived.Lib.Join
set_option linter.unusedVariables false
set_option linter.unusedSimpArgs false
set_option maxRecDepth 20000
set_option maxHeartbeats 8000000
namespace Go.Proofs.YtlddcimpdkcgeaaDoor
open Go Go.RowKit Sym
attribute [local irreducible] awp aops aopsQ gop gopQ gopO gopOQ gopV gopT awpN awpT awpTs ACall after

/-! ### Texts one behind the other -/
theorem ba_ext {a b : ByteArray} (h : a.data.toList = b.data.toList) : a = b:=by
  cases a;cases b;simpa [← Array.toList_inj] using h
theorem ba_app (a b : ByteArray) : (a ++ b).data.toList = a.data.toList ++ b.data.toList:=by rw [ByteArray.data_append,Array.toList_append]
def joinB : List ByteArray → ByteArray
  | [] => ⟨#[]⟩
  | x :: r => ⟨(x.data.toList ++ Lib.joinTail [44] (r.map (·.data.toList))).toArray⟩
theorem joinB_lib (xs : List ByteArray) : (⟨(Lib.join (xs.map (·.data.toList)) [44]).toArray⟩ : ByteArray) = joinB xs:=by
  cases xs with
  | nil => rfl
  | cons x r => simp only [List.map_cons,Lib.join_cons,joinB]
theorem joinB_len (xs : List ByteArray) : (Lib.join (xs.map (·.data.toList)) [44]).length = (joinB xs).size:=by
  rw [← joinB_lib];simp [ByteArray.size]
def sizeBs : List ByteArray → Nat
  | [] => 0
  | x :: r => 1 + x.size + sizeBs r
theorem tail_len : ∀ r : List ByteArray,(Lib.joinTail [44] (r.map (·.data.toList))).length = sizeBs r
  | [] => rfl
  | y :: r => by
    have:=tail_len r
    simp only [Lib.joinTail,List.map_cons,List.flatten_cons,List.length_append,sizeBs,List.length_cons,List.length_nil] at this ⊢
    rw [this,Lib.size_eq y]
theorem joinB_size (xs : List ByteArray) : (joinB xs).size ≤ sizeBs xs:=by
  cases xs with
  | nil => exact Nat.le_refl 0
  | cons x r =>
    have:=tail_len r
    simp only [joinB,ByteArray.size,List.size_toArray,List.length_append,sizeBs,this]
    rw [show x.data.toList.length = x.data.size by simp]
    omega
theorem tail_snoc (r : List ByteArray) (y : ByteArray) : Lib.joinTail [44] ((r ++ [y]).map (·.data.toList)) = Lib.joinTail [44] (r.map (·.data.toList)) ++ (44 :: y.data.toList):=by
  simp [Lib.joinTail]
/-- One more. -/
theorem joinB_snoc (xs : List ByteArray) (y : ByteArray) (h : xs ≠ []) : joinB (xs ++ [y]) = (joinB xs ++ ⟨#[44]⟩) ++ y:=by
  cases xs with
  | nil => exact absurd rfl h
  | cons x r =>
    refine ba_ext ?_
    rw [ba_app,ba_app]
    simp only [List.cons_append,joinB,tail_snoc]
    simp
theorem joinB_one (y : ByteArray) : joinB [y] = y:=by
  refine ba_ext ?_
  simp [joinB,Lib.joinTail]

/-! ### The text -/
def nameB (op : Int) : ByteArray:=if op = 3 then ⟨#[112,97,105,114]⟩ else if op = 4 then ⟨#[112,117,98]⟩ else if op = 5 then ⟨#[115,104,97,114,101]⟩ else if op = 6 then ⟨#[104,97,115,104]⟩ else if op = 7 then ⟨#[115,101,97,108]⟩ else ⟨#[115,105,103,110]⟩
theorem nameB_size (op : Int) : (nameB op).size ≤ 5:=by
  unfold nameB
  split;· decide
  split;· decide
  split;· decide
  split;· decide
  split <;> decide
mutual
def textB : Term → ByteArray
  | .mk op n s kids => if op = 1 then digB n else if op = 2 then (⟨#[60]⟩ ++ s) ++ ⟨#[62]⟩ else if 3 ≤ op ∧ op ≤ 8 then ((nameB op ++ ⟨#[40]⟩) ++ joinB (textBs kids)) ++ ⟨#[41]⟩ else ⟨#[63]⟩
def textBs : List Term → List ByteArray
  | [] => []
  | t :: r => textB t :: textBs r
end
theorem textBs_length : ∀ ts : List Term,(textBs ts).length = ts.length
  | [] => rfl
  | t :: r => by rw [textBs,List.length_cons,textBs_length r,List.length_cons]
theorem textBs_snoc : ∀ (ts : List Term) (i : Nat) (h : i < ts.length),textBs (ts.take (i + 1)) = textBs (ts.take i) ++ [textB ts[i]]
  | t :: r,0,h => by simp [textBs]
  | t :: r,i + 1,h => by
    simp only [List.take_succ_cons,textBs,List.cons_append,List.getElem_cons_succ]
    rw [textBs_snoc r i (by simpa using h)]
theorem ba_size (a b : ByteArray) : (a ++ b).size = a.size + b.size:=ByteArray.size_append
mutual
theorem textB_size : ∀ t : Term,(textB t).size ≤ 39 + 40 * t.cnt
  | .mk op n s kids => by
    rw [textB]
    split
    · have:=digB_size n;omega
    split
    · rw [ba_size,ba_size,show (⟨#[60]⟩ : ByteArray).size = 1 from rfl,show (⟨#[62]⟩ : ByteArray).size = 1 from rfl]
      simp only [Term.cnt];omega
    split
    · have h1:=nameB_size op
      have h2:=joinB_size (textBs kids)
      have h3:=textBs_size kids
      rw [ba_size,ba_size,ba_size,show (⟨#[40]⟩ : ByteArray).size = 1 from rfl,show (⟨#[41]⟩ : ByteArray).size = 1 from rfl]
      simp only [Term.cnt];omega
    · rw [show (⟨#[63]⟩ : ByteArray).size = 1 from rfl];omega
theorem textBs_size : ∀ ts : List Term,sizeBs (textBs ts) ≤ 40 * (ts.length + cnts ts)
  | [] => by simp [textBs,sizeBs]
  | t :: r => by
    have h1:=textB_size t
    have h2:=textBs_size r
    simp only [textBs,sizeBs,cnts,List.length_cons]
    omega
end
theorem cnts_take : ∀ (ts : List Term) (i : Nat),cnts (ts.take i) ≤ cnts ts
  | [],i => by simp
  | t :: r,0 => by simp [cnts]
  | t :: r,i + 1 => by have:=cnts_take r i;simp only [List.take_succ_cons,cnts];omega
theorem textB_node {t : Term} (h : 3 ≤ t.op ∧ t.op ≤ 8) : textB t = ((nameB t.op ++ ⟨#[40]⟩) ++ joinB (textBs t.kids)) ++ ⟨#[41]⟩:=by
  cases t with|mk op n s kids => ?_
  simp only [Term.op,Term.kids] at h ⊢
  rw [textB,if_neg (by omega),if_neg (by omega),if_pos h]
theorem textB_atom {t : Term} (h : t.op = 1) : textB t = digB t.n:=by
  cases t with|mk op n s kids => ?_
  simp only [Term.op,Term.n] at h ⊢
  rw [textB,if_pos h]
theorem textB_text {t : Term} (h : t.op = 2) : textB t = (⟨#[60]⟩ ++ t.s) ++ ⟨#[62]⟩:=by
  cases t with|mk op n s kids => ?_
  simp only [Term.op,Term.s] at h ⊢
  rw [textB,if_neg (by omega),if_pos h]
theorem textB_none {t : Term} (h1 : t.op ≠ 1) (h2 : t.op ≠ 2) (h : ¬ (3 ≤ t.op ∧ t.op ≤ 8)) : textB t = ⟨#[63]⟩:=by
  cases t with|mk op n s kids => ?_
  simp only [Term.op] at h h1 h2 ⊢
  rw [textB,if_neg h1,if_neg h2,if_neg h]

def strDs (xs : List ByteArray) : List (List D):=xs.map fun s => [.str s]
theorem strDs_length (xs : List ByteArray) : (strDs xs).length = xs.length:=by simp [strDs]
theorem strDs_flat : ∀ xs : List ByteArray,(strDs xs).flatten = xs.map D.str
  | [] => rfl
  | x :: r => by
    have:=strDs_flat r
    simp only [strDs] at this
    simp [strDs,this]
theorem strDs_each (xs : List ByteArray) : ∀ l,l ∈ strDs xs → l.length = 1:=by
  intro l hl
  simp only [strDs,List.mem_map] at hl
  obtain ⟨s,_,rfl⟩:=hl
  rfl
theorem join_ct (xs : List ByteArray) (h : (joinB xs).size ≤ 140737488355328) : Ct Tryd.prog 112 [.d false (.sl (strDs xs)),.d false (.str ⟨#[44]⟩)] (.d true (.str (joinB xs))):=by
  refine ⟨⟨_,Tryd.func112,rfl,rfl⟩,fun w ok vs hL hok hv => ?_⟩
  match vs,hv with
  | [v1,v2],hv =>
    simp only [VSimL,and_true] at hv
    obtain ⟨h1,h2⟩:=hv
    have h2:=(vstr h2).1
    subst h2
    simp only [VSim] at h1
    obtain ⟨a,c,hv1,hc,hm,hcells⟩:=h1.cells
    rw [strDs_length] at hv1 hc hm hcells
    subst hv1
    cases xs with
    | nil =>
      refine (Tryd.strings_Join_none a c ⟨#[44]⟩ w).mono ?_
      rintro e w' ⟨rfl,rfl⟩
      exact ⟨_,rfl,Fr.refl _ _,vsim_str _ (by decide)⟩
    | cons x r =>
      obtain ⟨b,o,us,rfl,hb,hcell,hr⟩:=hcells 1 (strDs_each _) (by simp)
      rw [strDs_flat] at hr
      refine (Tryd.strings_Join b o c (x :: r) ⟨#[44]⟩ w (fun j y hy => ?_) (hok b hb) hm hc (by rw [show (⟨#[44]⟩ : ByteArray).data.toList = [44] from rfl,joinB_len];exact h)).mono ?_
      · obtain ⟨u,hu1,hu2⟩:=hr.get (i:=j) (d:=.str y) (by rw [List.getElem?_map,hy];rfl)
        rw [hcell j u hu1]
        cases hu2
        rfl
      · rintro e w' ⟨rfl,hB⟩
        rw [show (⟨#[44]⟩ : ByteArray).data.toList = [44] from rfl,joinB_lib]
        exact ⟨_,rfl,⟨hB.os,hB.tape,hB.output,hB.size,fun k hk _ => hB.block k hk⟩,vsim_str _ (by omega)⟩
  | [],hv => simp [VSimL] at hv
  | [_],hv => simp [VSimL] at hv
  | _ :: _ :: _ :: _,hv => simp [VSimL] at hv
def txB (op : Int) (ks : List Term) (i : Nat) : ByteArray:=(nameB op ++ ⟨#[40]⟩) ++ joinB (textBs (ks.take i))
theorem txB_size (op : Int) (ks : List Term) (i : Nat) : (txB op ks i).size ≤ 6 + 40 * (ks.length + cnts ks):=by
  have h1:=nameB_size op
  have h2:=joinB_size (textBs (ks.take i))
  have h3:=textBs_size (ks.take i)
  have h4:=cnts_take ks i
  have h5 : (ks.take i).length ≤ ks.length:=by rw [List.length_take];omega
  unfold txB
  rw [ba_size,ba_size,show (⟨#[40]⟩ : ByteArray).size = 1 from rfl]
  omega
theorem txB_zero (op : Int) (ks : List Term) : txB op ks 0 = nameB op ++ ⟨#[40]⟩:=by
  unfold txB
  refine ba_ext ?_
  rw [ba_app]
  simp [textBs,joinB]
theorem txB_one (op : Int) (ks : List Term) (h : 0 < ks.length) : txB op ks 1 = txB op ks 0 ++ textB ks[0]:=by
  rw [txB_zero]
  unfold txB
  rw [textBs_snoc ks 0 h]
  simp only [List.take_zero,textBs,List.nil_append,joinB_one]
theorem txB_succ (op : Int) (ks : List Term) (i : Nat) (h0 : 0 < i) (h : i < ks.length) : txB op ks (i + 1) = (txB op ks i ++ ⟨#[44]⟩) ++ textB ks[i]:=by
  unfold txB
  have hne : textBs (ks.take i) ≠ []:=fun he => by
    have:=textBs_length (ks.take i)
    rw [he,List.length_take,List.length_nil] at this
    omega
  rw [textBs_snoc ks i h,joinB_snoc _ _ hne]
  refine ba_ext ?_
  simp only [ba_app,List.append_assoc]
theorem tx_facts (t : Term) (i : Nat) (hc : t.cnt ≤ 8388608) (h : i < t.kids.length) : decide ((i : Int) < t.kids.length) = true ∧ wrap64 ((i : Int) + 1) = ((i + 1 : Nat) : Int) ∧ (0 ≤ (i : Int) ∧ (i : Int) < t.kids.length) ∧ (txB t.op t.kids i).size + (⟨#[44]⟩ : ByteArray).size + (textB t.kids[i]).size ≤ 4611686018427387904 ∧ (txB t.op t.kids i).size + (textB t.kids[i]).size ≤ 4611686018427387904:=by
  have h1:=txB_size t.op t.kids i
  have h2:=textB_size t.kids[i]
  have h3:=cnts_mem (List.getElem_mem h)
  have h4:=Term.cnt_eq t
  have h5 : (⟨#[44]⟩ : ByteArray).size = 1:=rfl
  rw [h5]
  refine ⟨decide_eq_true (Int.ofNat_lt.2 h),by rw [w64 (by omega) (by omega)];omega,⟨by omega,by omega⟩,by omega,by omega⟩
theorem tx_end (t : Term) (hc : t.cnt ≤ 8388608) : (txB t.op t.kids t.kids.length).size + (⟨#[41]⟩ : ByteArray).size ≤ 4611686018427387904:=by
  have h1:=txB_size t.op t.kids t.kids.length
  have h4:=Term.cnt_eq t
  have h5 : (⟨#[41]⟩ : ByteArray).size = 1:=rfl
  rw [h5]
  omega
theorem txB_all (op : Int) (ks : List Term) : ((nameB op ++ ⟨#[40]⟩) ++ joinB (textBs ks)) ++ ⟨#[41]⟩ = txB op ks ks.length ++ ⟨#[41]⟩:=by
  unfold txB
  rw [List.take_length]
theorem rngT_ct (x : Int) : Ct Tryd.prog 114 [.d false (.int .i64 x),.d false (.int .i64 3),.d false (.int .i64 8)] (.d true (.bool (bif decide (3 ≤ x) then decide (x ≤ 8) else false))):=by
  refine ok114.ct mo Tryd.func114 (by simp) rfl fun hok => ?_
  unfold ac114
  repeat' first|first|refine s_opt1 ?_|refine s_opt0 ?_|refine s_optq1 ?_|refine s_optq0 ?_|(refine s_norm ?_;try simp only [wsN,wsI,rmv,rng,X.ev,lkp,peel,cond_true,cond_false,nbeq,Nat.reduceBEq,Nat.reduceSub,Nat.reduceAdd,Nat.zero_add,Nat.sub_zero,Nat.sub_self,List.length_cons,List.length_nil,List.length_append,List.cons_append,List.nil_append,List.append_nil])|(refine s_take fun K hK => ?_)|(refine s_cons (fun K hK => ?_) ?_)|exact s_tnil|refine s_br ?_|refine s_done ?_|refine s_seq fun K hK => ?_|refine s_region ?_|refine s_draw ?_|refine s_tree ?_|refine s_op fun K hK => ?_|refine s_opq fun K hK => ?_|refine s_ops ?_|refine s_endq ?_|simp only [go_sem,Int.reduceToNat,Int.reduceEq,Nat.reduceAdd,Nat.reduceBEq,Nat.reduceLeDiff,Nat.reduceLT,Int.reduceLT,Int.reduceLE,Int.reduceNeg,reduceCtorEq]|(first|(refine hK _ ?_;clear hK K)|(clear hK K;refine hK _ ?_;clear hK K)|(clear hK K;clear hK K;refine hK _ ?_;clear hK K))|refine And.intro ?_ ?_
  all_goals first|(simp [go_sem,tids,A.tid,A.tid.go,List.cons_append,frzT,St.frz,A.sub,A.subL,O.sub,subT,subH,frzY,frzZ,Post,aret,evRs,RV.ev,tupA,A.Le,A.LeL,lkp,St.frzs,St.frz,A.ids,A.idsL,cond_true,cond_false,nbeq,nble,decide_true,decide_false,Nat.reduceLeDiff,Nat.reduceBEq,Nat.reduceAdd,beq_self_eq_true,true_and,and_true,true_implies,List.append_nil,List.nil_append,List.getElem?_cons_zero,List.getElem?_cons_succ,List.length_cons,List.length_nil,List.drop_zero,List.take_succ_cons,List.take_zero,and_self];done)|skip
def names9 : List (List D):=[[.str ⟨#[]⟩],[.str ⟨#[]⟩],[.str ⟨#[]⟩],[.str ⟨#[112,97,105,114]⟩],[.str ⟨#[112,117,98]⟩],[.str ⟨#[115,104,97,114,101]⟩],[.str ⟨#[104,97,115,104]⟩],[.str ⟨#[115,101,97,108]⟩],[.str ⟨#[115,105,103,110]⟩]]
theorem names9_get {op : Int} (h : 3 ≤ op ∧ op ≤ 8) : names9.getD op.toNat [] = [.str (nameB op)]:=by
  obtain ⟨h3,h8⟩:=h
  have : op = 3 ∨ op = 4 ∨ op = 5 ∨ op = 6 ∨ op = 7 ∨ op = 8:=by omega
  rcases this with rfl|rfl|rfl|rfl|rfl|rfl <;> rfl
theorem textT1_of (t : Term) (hc : t.cnt ≤ 8388608) (ih : ∀ u,u ∈ t.kids → Ct Tryd.prog 60 [u.v] (.d true (.str (textB u)))) : Ct Tryd.prog 60 [t.v] (.d true (.str (textB t))):=by
  have hd:=digits1_ct t.n
  have hr:=rngT_ct t.op
  refine ok60.ct mo Tryd.func60 (by simp) rfl fun hok => ?_
  have hs : t.s.size ≤ 4611686018427387000:=by have:=Term.cnt_eq t;omega
  have hkl : t.kids.length ≤ 8388608:=by have:=Term.cnt_eq t;omega
  have hkc : t.kids.length + cnts t.kids ≤ 8388608:=by have:=Term.cnt_eq t;omega
  unfold ac60
  simp only [Term.v_eq] at *
  by_cases h1 : t.op = 1
  · have d1 : decide (t.op = 1) = true:=decide_eq_true h1
    rw [textB_atom h1]
    repeat' first|assumption|first|refine s_opt1 ?_|refine s_opt0 ?_|refine s_optq1 ?_|refine s_optq0 ?_|(refine s_norm ?_;try simp only [wsN,wsI,rmv,rng,X.ev,lkp,peel,cond_true,cond_false,nbeq,Nat.reduceBEq,Nat.reduceSub,Nat.reduceAdd,Nat.zero_add,Nat.sub_zero,Nat.sub_self,List.length_cons,List.length_nil,List.length_append,List.cons_append,List.nil_append,List.append_nil])|(refine s_take fun K hK => ?_)|(refine s_cons (fun K hK => ?_) ?_)|exact s_tnil|refine s_br ?_|refine s_done ?_|refine s_seq fun K hK => ?_|refine s_region ?_|refine s_draw ?_|refine s_tree ?_|refine s_op fun K hK => ?_|refine s_opq fun K hK => ?_|refine s_ops ?_|refine s_endq ?_|simp only [go_sem,Int.reduceToNat,Int.reduceEq,Nat.reduceAdd,Nat.reduceBEq,Nat.reduceLeDiff,Nat.reduceLT,Int.reduceLT,Int.reduceLE,Int.reduceNeg,reduceCtorEq,d1]|(first|(refine hK _ ?_;clear hK K)|(clear hK K;refine hK _ ?_;clear hK K)|(clear hK K;clear hK K;refine hK _ ?_;clear hK K))|refine And.intro ?_ ?_|refine s_call hd ?_
    all_goals first|(simp [go_sem,tids,A.tid,A.tid.go,List.cons_append,frzT,St.frz,A.sub,A.subL,O.sub,subT,subH,frzY,frzZ,Post,aret,evRs,RV.ev,tupA,A.Le,A.LeL,lkp,St.frzs,St.frz,A.ids,A.idsL,cond_true,cond_false,nbeq,nble,decide_true,decide_false,Nat.reduceLeDiff,Nat.reduceBEq,Nat.reduceAdd,beq_self_eq_true,true_and,and_true,true_implies,List.append_nil,List.nil_append,List.getElem?_cons_zero,List.getElem?_cons_succ,List.length_cons,List.length_nil,List.drop_zero,List.take_succ_cons,List.take_zero,and_self];done)|(simp;done)|skip
  · have d1 : decide (t.op = 1) = false:=decide_eq_false h1
    by_cases h2 : t.op = 2
    · have d2 : decide (t.op = 2) = true:=decide_eq_true h2
      rw [textB_text h2]
      have z1 : (⟨#[60]⟩ : ByteArray).size + t.s.size ≤ 4611686018427387904:=by rw [show (⟨#[60]⟩ : ByteArray).size = 1 from rfl];omega
      have z2 : (⟨#[60]⟩ : ByteArray).size + t.s.size + (⟨#[62]⟩ : ByteArray).size ≤ 4611686018427387904:=by rw [show (⟨#[60]⟩ : ByteArray).size = 1 from rfl,show (⟨#[62]⟩ : ByteArray).size = 1 from rfl];omega
      repeat' first|assumption|first|refine s_opt1 ?_|refine s_opt0 ?_|refine s_optq1 ?_|refine s_optq0 ?_|(refine s_norm ?_;try simp only [wsN,wsI,rmv,rng,X.ev,lkp,peel,cond_true,cond_false,nbeq,Nat.reduceBEq,Nat.reduceSub,Nat.reduceAdd,Nat.zero_add,Nat.sub_zero,Nat.sub_self,List.length_cons,List.length_nil,List.length_append,List.cons_append,List.nil_append,List.append_nil])|(refine s_take fun K hK => ?_)|(refine s_cons (fun K hK => ?_) ?_)|exact s_tnil|refine s_br ?_|refine s_done ?_|refine s_seq fun K hK => ?_|refine s_region ?_|refine s_draw ?_|refine s_tree ?_|refine s_op fun K hK => ?_|refine s_opq fun K hK => ?_|refine s_ops ?_|refine s_endq ?_|simp only [go_sem,Int.reduceToNat,Int.reduceEq,Nat.reduceAdd,Nat.reduceBEq,Nat.reduceLeDiff,Nat.reduceLT,Int.reduceLT,Int.reduceLE,Int.reduceNeg,reduceCtorEq,d1,d2]|(first|(refine hK _ ?_;clear hK K)|(clear hK K;refine hK _ ?_;clear hK K)|(clear hK K;clear hK K;refine hK _ ?_;clear hK K))|refine And.intro ?_ ?_
      all_goals first|(simp [go_sem,tids,A.tid,A.tid.go,List.cons_append,frzT,St.frz,A.sub,A.subL,O.sub,subT,subH,frzY,frzZ,Post,aret,evRs,RV.ev,tupA,A.Le,A.LeL,lkp,St.frzs,St.frz,A.ids,A.idsL,cond_true,cond_false,nbeq,nble,decide_true,decide_false,Nat.reduceLeDiff,Nat.reduceBEq,Nat.reduceAdd,beq_self_eq_true,true_and,and_true,true_implies,List.append_nil,List.nil_append,List.getElem?_cons_zero,List.getElem?_cons_succ,List.length_cons,List.length_nil,List.drop_zero,List.take_succ_cons,List.take_zero,and_self];done)|(simp;done)|skip
    · have d2 : decide (t.op = 2) = false:=decide_eq_false h2
      by_cases h3 : 3 ≤ t.op ∧ t.op ≤ 8
      · have d3 : decide (3 ≤ t.op) = true:=decide_eq_true h3.1
        have d4 : decide (t.op ≤ 8) = true:=decide_eq_true h3.2
        rw [textB_node h3]
        have hg:=names9_get h3
        unfold names9 at hg
        simp only [d3,d4,cond_true] at hr
        have hn:=nameB_size t.op
        have z0 : (nameB t.op).size + (⟨#[40]⟩ : ByteArray).size ≤ 4611686018427387904:=by rw [show (⟨#[40]⟩ : ByteArray).size = 1 from rfl];omega
        have i0 : 0 ≤ t.op:=by omega
        have i9 : t.op < ((8 : Nat) + 1 : Nat):=by omega
        have i9' : t.op < 9:=by omega
        have i9'' : t.op.toNat < 9:=by omega
        repeat' first|assumption|first|refine s_opt1 ?_|refine s_opt0 ?_|refine s_optq1 ?_|refine s_optq0 ?_|(refine s_norm ?_;try simp only [wsN,wsI,rmv,rng,X.ev,lkp,peel,cond_true,cond_false,nbeq,Nat.reduceBEq,Nat.reduceSub,Nat.reduceAdd,Nat.zero_add,Nat.sub_zero,Nat.sub_self,List.length_cons,List.length_nil,List.length_append,List.cons_append,List.nil_append,List.append_nil])|(refine s_take fun K hK => ?_)|(refine s_cons (fun K hK => ?_) ?_)|exact s_tnil|refine s_br ?_|refine s_done ?_|refine s_seq fun K hK => ?_|refine s_region ?_|refine s_draw ?_|refine s_tree ?_|refine s_op fun K hK => ?_|refine s_opq fun K hK => ?_|refine s_ops ?_|refine s_endq ?_|simp only [go_sem,Int.reduceToNat,Int.reduceEq,Nat.reduceAdd,Nat.reduceBEq,Nat.reduceLeDiff,Nat.reduceLT,Int.reduceLT,Int.reduceLE,Int.reduceNeg,reduceCtorEq,d1,d2,hg]|(first|(refine hK _ ?_;clear hK K)|(clear hK K;refine hK _ ?_;clear hK K)|(clear hK K;clear hK K;refine hK _ ?_;clear hK K))|refine And.intro ?_ ?_|refine s_call hr ?_
        all_goals first|(show awp _ _ _ _;skip)|(simp;done)
        clear hg hr z0 i9 i9' i9'' d3 d4 hd hn
        refine s_loop { i : Nat // i ≤ t.kids.length } (fun i => ⟨[(1,.ptr 0 0),(4,.d true (.str (txB t.op t.kids i.1))),(5,.d true (.int .i64 i.1))],[.box [.d false (.int .i64 t.op),.d false (.int .i64 t.n),.d false (.str t.s),.d false (.sl (encs t.kids))]]⟩) (fun i => t.kids.length - i.1) ⟨0,Nat.zero_le _⟩ ?_ ?_
        · simp [StLe,leT,leH,A.Le,A.LeL,O.Le,lkp,freeT,freeH,A.free,A.freeL,cond_true,cond_false,nbeq,nble,nblt,decide_true,decide_false,Nat.reduceLT,Nat.reduceBEq,true_and,and_true,List.length_cons,List.length_nil,true_implies,and_self,Bool.and_true,Bool.true_and,Bool.and_self,txB_zero]
        · rintro ⟨i,hi⟩ K1 hK1
          simp only
          by_cases hlt : i < t.kids.length
          · obtain ⟨e1,hw,⟨g1,g2⟩,y2,y3⟩:=tx_facts t i hc hlt
            have y1:=Nat.le_trans (Nat.le_add_right _ _) y2
            have hget : t.kids[i]? = some t.kids[i]:=List.getElem?_eq_getElem hlt
            have hc1:=ih _ (List.getElem_mem hlt)
            have hgd:=encs_getD t.kids i _ hget
            have hfin : ∀ σ',StLe σ' ⟨[(1,.ptr 0 0),(4,.d true (.str (txB t.op t.kids (i + 1)))),(5,.d true (.int .i64 ((i + 1 : Nat) : Int)))],[.box [.d false (.int .i64 t.op),.d false (.int .i64 t.n),.d false (.str t.s),.d false (.sl (encs t.kids))]]⟩ → K1 σ':=fun σ' h => hK1 σ' ⟨i + 1,hlt⟩ h (by simp;omega)
            clear hK1
            by_cases h0 : 0 < i
            · have e2 : decide ((0 : Int) < i) = true:=decide_eq_true (Int.natCast_pos.2 h0)
              rw [txB_succ t.op t.kids i h0 hlt] at hfin
              generalize textB t.kids[i] = y at *
              generalize txB t.op t.kids i = x at *
              repeat' first|assumption|first|refine s_opt1 ?_|refine s_opt0 ?_|refine s_optq1 ?_|refine s_optq0 ?_|(refine s_norm ?_;try simp only [wsN,wsI,rmv,rng,X.ev,lkp,peel,cond_true,cond_false,nbeq,Nat.reduceBEq,Nat.reduceSub,Nat.reduceAdd,Nat.zero_add,Nat.sub_zero,Nat.sub_self,List.length_cons,List.length_nil,List.length_append,List.cons_append,List.nil_append,List.append_nil])|(refine s_take fun K hK => ?_)|(refine s_cons (fun K hK => ?_) ?_)|exact s_tnil|refine s_br ?_|refine s_done ?_|refine s_seq fun K hK => ?_|refine s_region ?_|refine s_draw ?_|refine s_tree ?_|refine s_op fun K hK => ?_|refine s_opq fun K hK => ?_|refine s_ops ?_|refine s_endq ?_|simp only [go_sem,Int.reduceToNat,Int.reduceEq,Nat.reduceAdd,Nat.reduceBEq,Nat.reduceLeDiff,Nat.reduceLT,Int.reduceLT,Int.reduceLE,Int.reduceNeg,reduceCtorEq,e1,e2,hw,encs_length,Int.toNat_natCast,hgd,Term.enc_eq,ba_size]|(first|(refine hK _ ?_;clear hK K)|(clear hK K;refine hK _ ?_;clear hK K)|(clear hK K;clear hK K;refine hK _ ?_;clear hK K))|refine And.intro ?_ ?_|refine s_call hc1 ?_
              all_goals first|(refine hfin _ ?_;simp [StLe,leT,leH,A.Le,A.LeL,O.Le,lkp,freeT,freeH,A.free,A.freeL,cond_true,cond_false,nbeq,nble,nblt,decide_true,decide_false,Nat.reduceLT,Nat.reduceBEq,true_and,and_true,List.length_cons,List.length_nil,true_implies,and_self,Bool.and_true,Bool.true_and,Bool.and_self];done)|(simp;done)|skip
            · have h00 : i = 0:=Nat.eq_zero_of_not_pos h0
              have e2 : decide ((0 : Int) < i) = false:=decide_eq_false (fun h => h0 (Int.natCast_pos.1 h))
              have hsn : txB t.op t.kids (i + 1) = txB t.op t.kids i ++ textB t.kids[i]:=by subst h00;exact txB_one t.op t.kids hlt
              rw [hsn] at hfin
              clear h00 hsn
              generalize textB t.kids[i] = y at *
              generalize txB t.op t.kids i = x at *
              repeat' first|assumption|first|refine s_opt1 ?_|refine s_opt0 ?_|refine s_optq1 ?_|refine s_optq0 ?_|(refine s_norm ?_;try simp only [wsN,wsI,rmv,rng,X.ev,lkp,peel,cond_true,cond_false,nbeq,Nat.reduceBEq,Nat.reduceSub,Nat.reduceAdd,Nat.zero_add,Nat.sub_zero,Nat.sub_self,List.length_cons,List.length_nil,List.length_append,List.cons_append,List.nil_append,List.append_nil])|(refine s_take fun K hK => ?_)|(refine s_cons (fun K hK => ?_) ?_)|exact s_tnil|refine s_br ?_|refine s_done ?_|refine s_seq fun K hK => ?_|refine s_region ?_|refine s_draw ?_|refine s_tree ?_|refine s_op fun K hK => ?_|refine s_opq fun K hK => ?_|refine s_ops ?_|refine s_endq ?_|simp only [go_sem,Int.reduceToNat,Int.reduceEq,Nat.reduceAdd,Nat.reduceBEq,Nat.reduceLeDiff,Nat.reduceLT,Int.reduceLT,Int.reduceLE,Int.reduceNeg,reduceCtorEq,e1,e2,hw,encs_length,Int.toNat_natCast,hgd,Term.enc_eq,ba_size]|(first|(refine hK _ ?_;clear hK K)|(clear hK K;refine hK _ ?_;clear hK K)|(clear hK K;clear hK K;refine hK _ ?_;clear hK K))|refine And.intro ?_ ?_|refine s_call hc1 ?_
              all_goals first|(refine hfin _ ?_;simp [StLe,leT,leH,A.Le,A.LeL,O.Le,lkp,freeT,freeH,A.free,A.freeL,cond_true,cond_false,nbeq,nble,nblt,decide_true,decide_false,Nat.reduceLT,Nat.reduceBEq,true_and,and_true,List.length_cons,List.length_nil,true_implies,and_self,Bool.and_true,Bool.true_and,Bool.and_self];done)|(simp;done)|skip
          · have hil : i = t.kids.length:=by omega
            subst hil
            have e1 : decide ((t.kids.length : Int) < t.kids.length) = false:=decide_eq_false (Int.lt_irrefl _)
            have hal:=txB_all t.op t.kids
            have y2:=tx_end t hc
            generalize txB t.op t.kids t.kids.length = x at *
            clear hK1
            repeat' first|assumption|first|refine s_opt1 ?_|refine s_opt0 ?_|refine s_optq1 ?_|refine s_optq0 ?_|(refine s_norm ?_;try simp only [wsN,wsI,rmv,rng,X.ev,lkp,peel,cond_true,cond_false,nbeq,Nat.reduceBEq,Nat.reduceSub,Nat.reduceAdd,Nat.zero_add,Nat.sub_zero,Nat.sub_self,List.length_cons,List.length_nil,List.length_append,List.cons_append,List.nil_append,List.append_nil])|(refine s_take fun K hK => ?_)|(refine s_cons (fun K hK => ?_) ?_)|exact s_tnil|refine s_br ?_|refine s_done ?_|refine s_seq fun K hK => ?_|refine s_region ?_|refine s_draw ?_|refine s_tree ?_|refine s_op fun K hK => ?_|refine s_opq fun K hK => ?_|refine s_ops ?_|refine s_endq ?_|simp only [go_sem,Int.reduceToNat,Int.reduceEq,Nat.reduceAdd,Nat.reduceBEq,Nat.reduceLeDiff,Nat.reduceLT,Int.reduceLT,Int.reduceLE,Int.reduceNeg,reduceCtorEq,e1,encs_length]|(first|(refine hK _ ?_;clear hK K)|(clear hK K;refine hK _ ?_;clear hK K)|(clear hK K;clear hK K;refine hK _ ?_;clear hK K))|refine And.intro ?_ ?_
            all_goals first|(simp [go_sem,tids,A.tid,A.tid.go,List.cons_append,frzT,St.frz,A.sub,A.subL,O.sub,subT,subH,frzY,frzZ,Post,aret,evRs,RV.ev,tupA,A.Le,A.LeL,lkp,St.frzs,St.frz,A.ids,A.idsL,cond_true,cond_false,nbeq,nble,decide_true,decide_false,Nat.reduceLeDiff,Nat.reduceBEq,Nat.reduceAdd,beq_self_eq_true,true_and,and_true,true_implies,List.append_nil,List.nil_append,List.getElem?_cons_zero,List.getElem?_cons_succ,List.length_cons,List.length_nil,List.drop_zero,List.take_succ_cons,List.take_zero,and_self];done)|(simp [go_sem,tids,A.tid,A.tid.go,List.cons_append,frzT,St.frz,A.sub,A.subL,O.sub,subT,subH,frzY,frzZ,Post,aret,evRs,RV.ev,tupA,A.Le,A.LeL,lkp,St.frzs,St.frz,A.ids,A.idsL,cond_true,cond_false,nbeq,nble,decide_true,decide_false,Nat.reduceLeDiff,Nat.reduceBEq,Nat.reduceAdd,beq_self_eq_true,true_and,and_true,true_implies,List.append_nil,List.nil_append,List.getElem?_cons_zero,List.getElem?_cons_succ,List.length_cons,List.length_nil,List.drop_zero,List.take_succ_cons,List.take_zero,and_self,hal];done)|skip
      · rw [textB_none h1 h2 h3]
        have hb : (bif decide (3 ≤ t.op) then decide (t.op ≤ 8) else false) = false:=by
          cases hx : decide (3 ≤ t.op) with
          | false => rfl
          | true => exact decide_eq_false (fun h => h3 ⟨of_decide_eq_true hx,h⟩)
        rw [hb] at hr
        repeat' first|assumption|first|refine s_opt1 ?_|refine s_opt0 ?_|refine s_optq1 ?_|refine s_optq0 ?_|(refine s_norm ?_;try simp only [wsN,wsI,rmv,rng,X.ev,lkp,peel,cond_true,cond_false,nbeq,Nat.reduceBEq,Nat.reduceSub,Nat.reduceAdd,Nat.zero_add,Nat.sub_zero,Nat.sub_self,List.length_cons,List.length_nil,List.length_append,List.cons_append,List.nil_append,List.append_nil])|(refine s_take fun K hK => ?_)|(refine s_cons (fun K hK => ?_) ?_)|exact s_tnil|refine s_br ?_|refine s_done ?_|refine s_seq fun K hK => ?_|refine s_region ?_|refine s_draw ?_|refine s_tree ?_|refine s_op fun K hK => ?_|refine s_opq fun K hK => ?_|refine s_ops ?_|refine s_endq ?_|simp only [go_sem,Int.reduceToNat,Int.reduceEq,Nat.reduceAdd,Nat.reduceBEq,Nat.reduceLeDiff,Nat.reduceLT,Int.reduceLT,Int.reduceLE,Int.reduceNeg,reduceCtorEq,d1,d2]|(first|(refine hK _ ?_;clear hK K)|(clear hK K;refine hK _ ?_;clear hK K)|(clear hK K;clear hK K;refine hK _ ?_;clear hK K))|refine And.intro ?_ ?_|refine s_call hr ?_
        all_goals first|(simp [go_sem,tids,A.tid,A.tid.go,List.cons_append,frzT,St.frz,A.sub,A.subL,O.sub,subT,subH,frzY,frzZ,Post,aret,evRs,RV.ev,tupA,A.Le,A.LeL,lkp,St.frzs,St.frz,A.ids,A.idsL,cond_true,cond_false,nbeq,nble,decide_true,decide_false,Nat.reduceLeDiff,Nat.reduceBEq,Nat.reduceAdd,beq_self_eq_true,true_and,and_true,true_implies,List.append_nil,List.nil_append,List.getElem?_cons_zero,List.getElem?_cons_succ,List.length_cons,List.length_nil,List.drop_zero,List.take_succ_cons,List.take_zero,and_self];done)|(simp;done)|skip
theorem textT1_ct (t : Term) (hc : t.cnt ≤ 8388608) : Ct Tryd.prog 60 [t.v] (.d true (.str (textB t))):=by
  revert hc
  refine Term.ind (p:=fun t => t.cnt ≤ 8388608 → Ct Tryd.prog 60 [t.v] (.d true (.str (textB t)))) (fun t ih hc => textT1_of t hc (fun u hu => ih u hu ?_)) t
  have h1:=cnts_mem hu
  have h2:=Term.cnt_eq t
  omega
end Go.Proofs.YtlddcimpdkcgeaaDoor
