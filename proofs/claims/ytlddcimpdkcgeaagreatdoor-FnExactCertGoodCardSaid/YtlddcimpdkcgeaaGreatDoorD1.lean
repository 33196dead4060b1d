/- Texts between points. -/
import Derived.Test.YtlddcimpdkcgeaaGreatDoorT3
import Derived.Test.YtlddcimpdkcgeaaGreatDoorFns
import Derived.Test.YtlddcimpdkcgeaaGreatDoorShelf
import Derived.Lib.SplitLaws
set_option linter.unusedVariables false
set_option linter.unusedSimpArgs false
set_option maxRecDepth 20000
set_option maxHeartbeats 4000000
namespace Go.Proofs.YtlddcimpdkcgeaaGreatDoor
open List (cons_append)
open Nat (reduceAdd)
open Go Go.RowKit Sym
attribute [local irreducible] awp aops aopsQ gop gopQ gopO gopOQ gopV gopT awpN awpT awpTs ACall after
def mkB (l : List UInt8) : ByteArray:=⟨l.toArray⟩
theorem mkB_size (l : List UInt8) : (mkB l).size = l.length:=by simp [mkB,ByteArray.size]
theorem mkB_data (s : ByteArray) : mkB s.data.toList = s:=by cases s;simp [mkB]
theorem mkB_inj {s : ByteArray} {l : List UInt8} (h : s.data.toList = l) : s = mkB l:=by rw [← h,mkB_data]
def labsL (l : List UInt8) : List ByteArray:=(Lib.split l [46]).map mkB
def labs (s : ByteArray) : List ByteArray:=labsL s.data.toList
theorem indexByte_first (c : UInt8) : ∀ (a r : List UInt8),(∀ x,x ∈ a → x ≠ c) → Lib.indexByte (a ++ c :: r) c = a.length
  | [],r,_ => by simp [Lib.indexByte]
  | x :: a,r,h => by
    have hx : (x == c) = false:=by simpa using h x (by simp)
    have ih:=indexByte_first c a r (fun y hy => h y (by simp [hy]))
    rw [cons_append,Lib.indexByte,hx,ih]
    rw [if_neg (by simp),if_neg (by simp)]
    simp
theorem labsL_none {l : List UInt8} (h : ∀ x,x ∈ l → x ≠ 46) : labsL l = [mkB l]:=by
  have hc : Lib.count l [46] = 0:=by
    rw [Lib.count_one]
    exact List.count_eq_zero.2 fun hm => h _ hm rfl
  simp [labsL,Lib.split,hc,Lib.splitK]
theorem labsL_cons {a r : List UInt8} (h : ∀ x,x ∈ a → x ≠ 46) : labsL (a ++ 46 :: r) = mkB a :: labsL r:=by
  have hc : Lib.count (a ++ 46 :: r) [46] = Lib.count r [46] + 1:=by
    rw [Lib.count_one,Lib.count_one,List.count_append,List.count_cons_self,List.count_eq_zero.2 fun hm => h _ hm rfl]
    omega
  have hi : Lib.index (a ++ 46 :: r) [46] = a.length:=by rw [Lib.index_one];exact indexByte_first 46 a r h
  unfold labsL Lib.split
  rw [hc,Lib.splitK,hi,if_neg (by simp)]
  simp
theorem labsL_size : ∀ (n : Nat) (l : List UInt8),l.length ≤ n → (∀ x,x ∈ labsL l → x.size ≤ l.length) ∧ (labsL l).length ≤ l.length + 1:=by
  intro n
  induction n with
  | zero =>
    intro l hl
    have : l = []:=List.length_eq_zero_iff.1 (by omega)
    subst this
    rw [labsL_none (by simp)]
    exact ⟨fun x hx => by rw [List.mem_singleton.1 hx,mkB_size];exact Nat.le_refl _,by simp⟩
  | succ n ih =>
    intro l hl
    by_cases hm : (46 : UInt8) ∈ l
    · obtain ⟨a,r,rfl,ha⟩:=List.eq_append_cons_of_mem hm
      rw [labsL_cons (fun x hx e => ha (e ▸ hx))]
      have:=ih r (by simp at hl;omega)
      refine ⟨fun x hx => ?_,by simp;omega⟩
      rcases List.mem_cons.1 hx with rfl|hx
      · rw [mkB_size];simp
      · have:=this.1 x hx;simp;omega
    · rw [labsL_none (fun x hx e => hm (e ▸ hx))]
      exact ⟨fun x hx => by rw [List.mem_singleton.1 hx,mkB_size];exact Nat.le_refl _,by simp⟩
theorem labs_size {s x : ByteArray} (h : x ∈ labs s) : x.size ≤ s.size:=by
  have:=(labsL_size _ s.data.toList (Nat.le_refl _)).1 x h
  rwa [← Lib.size_eq] at this
theorem labs_length (s : ByteArray) : (labs s).length ≤ s.size + 1:=by
  have:=(labsL_size _ s.data.toList (Nat.le_refl _)).2
  rwa [← Lib.size_eq] at this
theorem labs_pos (s : ByteArray) : 0 < (labs s).length:=by
  have key : ∀ l : List UInt8,labsL l ≠ []:=by
    intro l
    by_cases h : ∀ x,x ∈ l → x ≠ 46
    · rw [labsL_none h];simp
    · have : (46 : UInt8) ∈ l:=by
        by_cases hm : (46 : UInt8) ∈ l
        · exact hm
        · exact absurd (show ∀ x,x ∈ l → x ≠ 46 from fun x hx e => hm (by rw [← e];exact hx)) h
      obtain ⟨a,r,rfl,ha⟩:=List.eq_append_cons_of_mem this
      rw [labsL_cons (show ∀ x,x ∈ a → x ≠ 46 from fun x hx e => ha (by rw [← e];exact hx))];simp
  have:=key s.data.toList
  unfold labs
  exact List.length_pos_iff.2 this
theorem split_labs (s : ByteArray) : Lib.splitB ⟨#[46]⟩ 0 (Lib.countB s ⟨#[46]⟩) s = labs s:=by
  have h:=Lib.splitB_data ⟨#[46]⟩ 0 (Lib.countB s ⟨#[46]⟩) s
  unfold labs labsL Lib.split
  rw [show Lib.splitK [46] 0 (Lib.count s.data.toList [46]) s.data.toList = _ from h.symm,List.map_map]
  conv => lhs;rw [← List.map_id (Lib.splitB _ _ _ _)]
  exact List.map_congr_left fun x _ => (mkB_data x).symm
theorem own_strs {w : World} {b : Nat} {ety : TypeId} {ss : List ByteArray} (hb : w.heap[b]? = some (.cells (ss.map Value.string).toArray ety (0,0))) (hp : 0 < ss.length) (hl : ss.length ≤ 140737488355328) (hs : ∀ s,s ∈ ss → s.size ≤ 4611686018427387904) :
    OwnL w [.slice (some ⟨b,0,none⟩) ss.length ss.length] [.sl (encStr ss)] [b]:=by
  have hin : ∀ ss : List ByteArray,(∀ s,s ∈ ss → s.size ≤ 4611686018427387904) → OwnL w (ss.map Value.string) (encStr ss).flatten []:=by
    intro ss
    induction ss with
    | nil => intro _;exact .nil
    | cons s ss ih => intro h;exact .str s _ _ _ (h s (by simp)) (ih fun x hx => h x (by simp [hx]))
  have h:=OwnL.sl (w:=w) b ss.length (ss.map Value.string).toArray ety 1 (encStr ss) [] [] [] [] (by simpa [encStr] using hp) hb (by simp [encStr]) (by simp [encStr]) (by have : maxLen = 9223372036854775807:=rfl;omega) (by simp) (by simpa [encStr] using hl)
    (by rw [show (List.take ((encStr ss).length * 1) (ss.map Value.string).toArray.toList) = ss.map Value.string by rw [encStr_length];simp only [Nat.mul_one];exact List.take_of_length_le (by simp)];exact hin ss hs) .nil
  simpa [encStr] using h
theorem maxLen_int {W : World} (hW : Began W) : ∃ m,W.cell? ⟨5,0,none⟩ = some (.int .i64 m):=Tryz.laysM146.s1_3 W hW.1
theorem split_ct (s : ByteArray) (hs : s.size ≤ 1048576) : Ct Tryz.prog 112 [.d false (.str s),.d false (.str ⟨#[46]⟩)] (.d true (.sl (encStr (labs s)))):=by
  refine ⟨⟨_,Tryz.func112,rfl,rfl⟩,fun w ok vs hL hok hv => ?_⟩
  match vs,hv with
  | [v1,v2],hv =>
    simp only [VSimL,and_true] at hv
    obtain ⟨h1,h2⟩:=hv
    have h1:=(vstr h1).1
    have h2:=(vstr h2).1
    subst h1;subst h2
    obtain ⟨m,hm⟩ : ∃ m,w.cell? ⟨5,0,none⟩ = some (.int .i64 m):=by
      obtain ⟨h0,W,hW,hb⟩:=hL
      obtain ⟨m,hm⟩:=maxLen_int hW
      exact ⟨m,(World.cell?_of_block (hb _ (by decide))).trans hm⟩
    refine (Tryz.strings_Split s ⟨#[46]⟩ m w (by omega) hm (by decide)).mono ?_
    rintro e w' ⟨rfl,rfl⟩
    have hlen:=Lib.splitB_all ⟨#[46]⟩ (by decide) 0 _ s rfl
    rw [split_labs] at hlen ⊢
    refine ⟨_,rfl,Fr.alloc w _,?_⟩
    have:=labs_length s
    have ho:=own_strs (w:=w.alloc (.cells ((labs s).map Value.string).toArray 9)) (b:=w.heap.size) (ety:=9) (ss:=labs s) (show (w.heap.push _)[w.heap.size]? = _ from Array.getElem?_push_size) (labs_pos s) (by omega) (fun x hx => by have:=labs_size hx;omega)
    rw [← hlen]
    simp only [VSim]
    exact ⟨[w.heap.size],ho,by simp,fun b hb => by simp at hb;subst hb;exact ⟨⟨by simp,.inr (Nat.le_refl _)⟩,Nat.le_refl _⟩⟩
  | [],hv => simp [VSimL] at hv
  | [_],hv => simp [VSimL] at hv
  | _ :: _ :: _ :: _,hv => simp [VSimL] at hv
theorem labels2_ct (s : ByteArray) (hs : s.size ≤ 1048576) : Ct Tryz.prog 96 [.d false (.str s)] (.d true (.sl (encStr (labs s)))):=by
  have h:=split_ct s hs
  refine ok96.ct mo Tryz.func96 (by simp) rfl fun hok => ?_
  unfold ac96
  repeat' first|assumption|first|refine s_opt1 ?_|refine s_opt0 ?_|refine s_optq1 ?_|refine s_optq0 ?_|(refine s_norm ?_;try simp only [wsN,wsI,rmv,rng,X.ev,lkp,peel,cond_true,cond_false,nbeq,Nat.reduceBEq,Nat.reduceSub,reduceAdd,Nat.zero_add,Nat.sub_zero,Nat.sub_self,List.length_cons,List.length_nil,List.length_append,cons_append,List.nil_append,List.append_nil])|(refine s_take fun K hK => ?_)|(refine s_cons (fun K hK => ?_) ?_)|exact s_tnil|refine s_br ?_|refine s_done ?_|refine s_seq fun K hK => ?_|refine s_region ?_|refine s_draw ?_|refine s_tree ?_|refine s_op fun K hK => ?_|refine s_opq fun K hK => ?_|refine s_ops ?_|refine s_endq ?_|simp only [go_sem,Int.reduceToNat,Int.reduceEq,reduceAdd,Nat.reduceBEq,Nat.reduceLeDiff,Nat.reduceLT,Int.reduceLT,Int.reduceLE,Int.reduceNeg,reduceCtorEq]|(first|(refine hK _ ?_;clear hK K)|(clear hK K;refine hK _ ?_;clear hK K)|(clear hK K;clear hK K;refine hK _ ?_;clear hK K))|refine And.intro ?_ ?_|refine s_call h ?_
  all_goals first|(simp [go_sem,tids,A.tid,A.tid.go,cons_append,frzT,St.frz,A.sub,A.subL,O.sub,subT,subH,frzY,frzZ,Post,aret,evRs,RV.ev,tupA,A.Le,A.LeL,lkp,St.frzs,A.ids,A.idsL,cond_true,cond_false,nbeq,nble,decide_true,decide_false,Nat.reduceLeDiff,Nat.reduceBEq,reduceAdd,beq_self_eq_true,true_and,and_true,true_implies,List.append_nil,List.nil_append,List.getElem?_cons_zero,List.getElem?_cons_succ,List.length_cons,List.length_nil,List.drop_zero,List.take_succ_cons,List.take_zero,and_self];done)|(simp [A.LeL];done)|rfl|skip
end Go.Proofs.YtlddcimpdkcgeaaGreatDoor
