/- The digits of a number. -/
import Derived.Test.YtlddcimpdkcgeaaGreatDoorT1
import Derived.Test.YtlddcimpdkcgeaaGreatDoorM1
import Derived.Test.YtlddcimpdkcgeaaGreatDoorFns
import Derived.Test.YtlddcimpdkcgeaaGreatDoorShelf
import Derived.Lib.ItoaLen
import Derived.Lib.Strings
set_option linter.unusedVariables false
set_option linter.unusedSimpArgs false
set_option maxRecDepth 20000
set_option maxHeartbeats 4000000
namespace Go.Proofs.YtlddcimpdkcgeaaGreatDoor
open List (length_cons length_nil cons_append nil_append append_nil getElem?_cons_succ getElem?_cons_zero length_append take_succ_cons take_zero drop_zero)
open Nat (reduceLeDiff reduceAdd reduceLT reduceSub sub_self zero_add sub_zero)
open Int (reduceToNat reduceNeg reduceEq reduceLE)
open Go Go.RowKit Go.Sort Sym
attribute [local irreducible] awp aops aopsQ gop gopQ gopO gopOQ gopV gopT awpN awpT awpTs ACall after
def digR (n : Int) : ByteArray:=⟨(Lib.itoa n).toArray⟩
theorem digR_data (n : Int) : (digR n).data.toList = Lib.itoa n:=by simp [digR]
theorem digR_sz (n : Int) : (digR n).size = (Lib.itoa n).length:=by simp [digR,ByteArray.size]
theorem digR_size {n : Int} (h0 : -9223372036854775808 ≤ n) (h1 : n ≤ 9223372036854775807) : (digR n).size ≤ 21:=by
  rw [digR_sz]
  exact Lib.itoa_length_le n h0 h1
def digB (n : Int) : ByteArray:=if -9223372036854775808 ≤ n ∧ n ≤ 9223372036854775807 then digR n else ⟨#[]⟩
theorem digB_in {n : Int} (h : -9223372036854775808 ≤ n ∧ n ≤ 9223372036854775807) : digB n = digR n:=if_pos h
theorem digB_size (n : Int) : (digB n).size ≤ 21:=by
  unfold digB
  split
  · rename_i h;exact digR_size h.1 h.2
  · decide
theorem grow_fr (w : World) (k : Nat) (os : Array Obj) : Fr (fun _ => False) w (grow (w.drewN k) os) :=
  ⟨rfl,rfl,rfl,by show w.heap.size ≤ (w.heap ++ os).size;simp,fun b hb _ => by show (w.heap ++ os)[b]? = w.heap[b]?;rw [Array.getElem?_append_left hb]⟩
theorem tabOf {W : World} (h : Began W) : Lib.TabIs Tryz.prog W "internal/strconv.uint64pow10" .u64 Lib.pow10Tab := h.2.1
theorem tab_at {w : World} (hL : Laid w) : Lib.TabIs Tryz.prog w "internal/strconv.uint64pow10" .u64 Lib.pow10Tab := by
  obtain ⟨h0,W,hW,hb⟩:=hL
  have h:=tabOf hW
  unfold Lib.TabIs World.var? at h ⊢
  have hg : Tryz.prog.globalNamed "internal/strconv.uint64pow10" = some 2 := by kernel_rfl
  rw [hg] at h ⊢
  simp only [Option.bind_some] at h ⊢
  rw [hb _ (by decide)]
  exact h
theorem itoa_ct (n : Int) : Ct Tryz.prog 77 [.d false (.int .i64 n)] (.d true (.str (digB n))):=by
  refine ⟨⟨_,Tryz.func77,rfl,rfl⟩,fun w ok vs hL hok hv => ?_⟩
  match vs,hv with
  | [v1],hv =>
    simp only [VSimL,and_true] at hv
    have hr:=(vint hv).2
    have h1:=(vint hv).1
    subst h1
    rw [i64_min,i64_max] at hr
    rw [digB_in hr]
    refine (Tryz.strconv_Itoa n hr.1 hr.2 w (tab_at hL)).mono ?_
    rintro e w' ⟨rfl,k,os,rfl⟩
    refine ⟨_,rfl,grow_fr _ _ _,?_⟩
    have:=digR_size hr.1 hr.2
    exact vsim_str _ (by show (digR n).size ≤ _;omega)
  | [],hv => simp [VSimL] at hv
  | _ :: _ :: _,hv => simp [VSimL] at hv
theorem u8_small {d : Nat} (h : d < 256) : IntKind.u8.wrap (d : Int) = (d : Int):=by
  simp only [IntKind.wrap,IntKind.signed,IntKind.bits]
  simp
  omega
def DigI (u m : Nat) (out : ByteArray) : Prop:=m ≤ u ∧ (m ≠ 0 → Lib.decDigits m ++ out.data.toList = Lib.decDigits u) ∧ (m = 0 → out.data.toList = Lib.decDigits u)
theorem digI_step {u m : Nat} {out sd : ByteArray} (h : DigI u m out) (hm : m ≠ 0) (hs : sd.data.toList = [UInt8.ofNat (48 + m % 10)]) : DigI u (m / 10) (sd ++ out):=by
  obtain ⟨h1,h3,h4⟩:=h
  have hap : (sd ++ out).data.toList = UInt8.ofNat (48 + m % 10) :: out.data.toList:=by
    rw [ByteArray.data_append,Array.toList_append,hs]
    rfl
  have h3:=h3 hm
  rw [Lib.decDigits] at h3
  refine ⟨by omega,fun hq => ?_,fun hq => ?_⟩
  · rw [dif_neg (by omega)] at h3
    rw [hap,← h3]
    simp
  · rw [dif_pos (by omega)] at h3
    rw [hap,← h3,Nat.mod_eq_of_lt (by omega)]
    rfl
theorem dig_nonneg {n : Int} {out : ByteArray} (hn : ¬ n < 0) (h : out.data.toList = Lib.decDigits n.natAbs) : out = digR n:=by
  have : Lib.itoa n = Lib.decDigits n.natAbs:=by unfold Lib.itoa;rw [if_neg hn];congr 1;omega
  rw [← this] at h
  cases out
  simp [digR,← h]
theorem dig_neg {n : Int} {out : ByteArray} (hn : n < 0) (h : out.data.toList = Lib.decDigits n.natAbs) : (⟨#[45]⟩ ++ out : ByteArray) = digR n:=by
  have h1 : Lib.itoa n = 45 :: Lib.decDigits n.natAbs:=by unfold Lib.itoa;rw [if_pos hn]
  have h2 : (⟨#[45]⟩ ++ out : ByteArray).data.toList = Lib.itoa n:=by
    rw [ByteArray.data_append,Array.toList_append,h,h1]
    rfl
  generalize (⟨#[45]⟩ ++ out : ByteArray) = o at *
  cases o
  simp [digR,← h2]
theorem digits1_ct (n : Int) : Ct Tryz.prog 68 [.d false (.int .i64 n)] (.d true (.str (digB n))):=by
  refine ok68.ct mo Tryz.func68 (by simp) rfl fun hok => ?_
  have hr : -9223372036854775808 ≤ n ∧ n ≤ 9223372036854775807:=by
    simp only [A.OkL,A.Ok,D.Ok,i64_min,i64_max] at hok
    exact hok.1
  rw [digB_in hr]
  have hU : (Lib.decDigits n.natAbs).length ≤ 21:=by
    have h:=digR_size hr.1 hr.2
    rw [digR_sz] at h
    unfold Lib.itoa at h
    split at h
    · simp only [length_cons] at h;omega
    · rw [show n.toNat = n.natAbs by omega] at h;exact h
  unfold ac68
  by_cases hz : n = 0
  · have d0 : decide (n = 0) = true:=decide_eq_true hz
    have he : digR n = ⟨#[48]⟩:=by subst hz;exact (dig_nonneg (n:=0) (out:=⟨#[48]⟩) (by decide) (by rw [Lib.decDigits];rfl)).symm
    rw [he]
    repeat' first|first|refine s_opt1 ?_|refine s_opt0 ?_|refine s_optq1 ?_|refine s_optq0 ?_|(refine s_norm ?_;try simp only [wsN,wsI,rmv,rng,X.ev,lkp,peel,cond_true,cond_false,nbeq,Nat.reduceBEq,reduceSub,reduceAdd,zero_add,sub_zero,sub_self,length_cons,length_nil,length_append,cons_append,nil_append,append_nil])|(refine s_take fun K hK => ?_)|(refine s_cons (fun K hK => ?_) ?_)|exact s_tnil|refine s_br ?_|refine s_done ?_|refine s_seq fun K hK => ?_|refine s_region ?_|refine s_draw ?_|refine s_tree ?_|refine s_op fun K hK => ?_|refine s_opq fun K hK => ?_|refine s_ops ?_|refine s_endq ?_|simp only [go_sem,reduceToNat,reduceEq,reduceAdd,Nat.reduceBEq,reduceLeDiff,reduceLT,Int.reduceLT,reduceLE,reduceNeg,reduceCtorEq,d0]|(first|(refine hK _ ?_;clear hK K)|(clear hK K;refine hK _ ?_;clear hK K)|(clear hK K;clear hK K;refine hK _ ?_;clear hK K))|refine And.intro ?_ ?_
    all_goals first|(simp [go_sem,tids,A.tid,A.tid.go,cons_append,frzT,St.frz,A.sub,A.subL,O.sub,subT,subH,frzY,frzZ,Post,aret,evRs,RV.ev,tupA,A.Le,A.LeL,lkp,St.frzs,A.ids,A.idsL,cond_true,cond_false,nbeq,nble,decide_true,decide_false,reduceLeDiff,Nat.reduceBEq,reduceAdd,beq_self_eq_true,true_and,and_true,true_implies,append_nil,nil_append,getElem?_cons_zero,getElem?_cons_succ,length_cons,length_nil,drop_zero,take_succ_cons,take_zero,and_self];done)|skip
  · have d0 : decide (n = 0) = false:=decide_eq_false hz
    by_cases hn : n < 0
    · have d1 : decide (n < 0) = true:=decide_eq_true hn
      repeat' first|first|refine s_opt1 ?_|refine s_opt0 ?_|refine s_optq1 ?_|refine s_optq0 ?_|(refine s_norm ?_;try simp only [wsN,wsI,rmv,rng,X.ev,lkp,peel,cond_true,cond_false,nbeq,Nat.reduceBEq,reduceSub,reduceAdd,zero_add,sub_zero,sub_self,length_cons,length_nil,length_append,cons_append,nil_append,append_nil])|(refine s_take fun K hK => ?_)|(refine s_cons (fun K hK => ?_) ?_)|exact s_tnil|refine s_br ?_|refine s_done ?_|refine s_seq fun K hK => ?_|refine s_region ?_|refine s_draw ?_|refine s_tree ?_|refine s_op fun K hK => ?_|refine s_opq fun K hK => ?_|refine s_ops ?_|refine s_endq ?_|simp only [go_sem,reduceToNat,reduceEq,reduceAdd,Nat.reduceBEq,reduceLeDiff,reduceLT,Int.reduceLT,reduceLE,reduceNeg,reduceCtorEq,d0,d1]|(first|(refine hK _ ?_;clear hK K)|(clear hK K;refine hK _ ?_;clear hK K)|(clear hK K;clear hK K;refine hK _ ?_;clear hK K))|refine And.intro ?_ ?_
      refine s_loop { p : Nat × ByteArray // DigI n.natAbs p.1 p.2 } (fun p => ⟨[(0,.d false (.int .i64 (-(p.1.1 : Int)))),(3,.d true (.bool true)),(4,.d true (.str p.1.2))],[]⟩) (fun p => p.1.1) ⟨(n.natAbs,⟨#[]⟩),Nat.le_refl _,fun _ => by simp,fun h => by omega⟩ ?_ ?_
      · simp [StLe,leT,leH,A.Le,A.LeL,O.Le,lkp,freeT,freeH,A.free,A.freeL,cond_true,cond_false,nbeq,nble,nblt,decide_true,decide_false,reduceLT,Nat.reduceBEq,true_and,and_true,length_cons,length_nil,true_implies,and_self,Bool.and_true,Bool.true_and,Bool.and_self]
        omega
      · rintro ⟨⟨m,out⟩,hI⟩ K1 hK1
        have hI':=hI
        obtain ⟨h1,h3,h4⟩:=hI'
        simp only at h1 h3 h4 ⊢
        by_cases hm : m = 0
        · have d2 : decide (-(m : Int) = 0) = true:=decide_eq_true (by omega)
          have h5:=dig_neg hn (h4 hm)
          have h6 : out.size ≤ 4611686018427387904 - 1:=by
            have:=congrArg ByteArray.size h5
            have:=digR_size hr.1 hr.2
            rw [ByteArray.size_append] at *
            omega
          repeat' first|first|refine s_opt1 ?_|refine s_opt0 ?_|refine s_optq1 ?_|refine s_optq0 ?_|(refine s_norm ?_;try simp only [wsN,wsI,rmv,rng,X.ev,lkp,peel,cond_true,cond_false,nbeq,Nat.reduceBEq,reduceSub,reduceAdd,zero_add,sub_zero,sub_self,length_cons,length_nil,length_append,cons_append,nil_append,append_nil])|(refine s_take fun K hK => ?_)|(refine s_cons (fun K hK => ?_) ?_)|exact s_tnil|refine s_br ?_|refine s_done ?_|refine s_seq fun K hK => ?_|refine s_region ?_|refine s_draw ?_|refine s_tree ?_|refine s_op fun K hK => ?_|refine s_opq fun K hK => ?_|refine s_ops ?_|refine s_endq ?_|simp only [go_sem,reduceToNat,reduceEq,reduceAdd,Nat.reduceBEq,reduceLeDiff,reduceLT,Int.reduceLT,reduceLE,reduceNeg,reduceCtorEq,d2,h5]|(first|(refine hK _ ?_;clear hK K)|(clear hK K;refine hK _ ?_;clear hK K)|(clear hK K;clear hK K;refine hK _ ?_;clear hK K))|refine And.intro ?_ ?_
          all_goals first|(show 1 + _ ≤ _;omega)|(simp [go_sem,tids,A.tid,A.tid.go,cons_append,frzT,St.frz,A.sub,A.subL,O.sub,subT,subH,frzY,frzZ,Post,aret,evRs,RV.ev,tupA,A.Le,A.LeL,lkp,St.frzs,A.ids,A.idsL,cond_true,cond_false,nbeq,nble,decide_true,decide_false,reduceLeDiff,Nat.reduceBEq,reduceAdd,beq_self_eq_true,true_and,and_true,true_implies,append_nil,nil_append,getElem?_cons_zero,getElem?_cons_succ,length_cons,length_nil,drop_zero,take_succ_cons,take_zero,and_self];done)|skip
        · have d2 : decide (-(m : Int) = 0) = false:=decide_eq_false (by omega)
          obtain ⟨r,hr1⟩ : ∃ r,r = m % 10:=⟨_,rfl⟩
          obtain ⟨q,hq1⟩ : ∃ q,q = m / 10:=⟨_,rfl⟩
          obtain ⟨d,hd1⟩ : ∃ d,d = 48 + r:=⟨_,rfl⟩
          obtain ⟨sd,hs1⟩ : ∃ sd : ByteArray,sd = ⟨(bytesD [[D.int .u8 (d : Int)]]).toArray⟩:=⟨_,rfl⟩
          have hsd : sd.data.toList = [UInt8.ofNat (48 + m % 10)]:=by rw [hs1,← hr1,← hd1];simp [bytesD]
          have hr10 : r < 10:=by rw [hr1];exact Nat.mod_lt _ (by decide)
          have hd2 : d < 256:=by rw [hd1];omega
          have hlt : q < m:=by rw [hq1];exact Nat.div_lt_self (by omega) (by decide)
          have hst:=digI_step hI hm hsd
          rw [← hq1] at hst
          have hsz : sd.size + out.size ≤ 4611686018427387904:=by
            have:=congrArg List.length (h3 hm)
            rw [length_append,← Lib.size_eq out] at this
            have h7 : sd.size = 1:=by rw [Lib.size_eq,hsd];rfl
            omega
          have e5 : wrap64 (0 - -(r : Int)) = (r : Int):=by rw [w64 (by omega) (by omega)];omega
          have e1 : (-(m : Int)).tmod 10 = -(r : Int):=by rw [Int.neg_tmod,Int.tmod_eq_emod_of_nonneg (by omega)];omega
          have e2 : wrap64 ((-(m : Int)).tdiv 10) = -(q : Int):=by rw [Int.neg_tdiv,Int.tdiv_eq_ediv_of_nonneg (by omega),w64 (by omega) (by omega)];omega
          have e3 : wrap64 (48 + (r : Int)) = (d : Int):=by rw [w64 (by omega) (by omega)];omega
          have e4 : IntKind.u8.wrap (d : Int) = (d : Int):=u8_small hd2
          rw [eq_comm] at hs1
          clear hq1 hr1 h1 h3 h4
          by_cases hr0 : r = 0
          · have d3 : decide (-(r : Int) < 0) = false:=by rw [hr0];rfl
            have e6 : wrap64 (48 + -(r : Int)) = (d : Int):=by rw [← e3,hr0];rfl
            repeat' first|first|refine s_opt1 ?_|refine s_opt0 ?_|refine s_optq1 ?_|refine s_optq0 ?_|(refine s_norm ?_;try simp only [wsN,wsI,rmv,rng,X.ev,lkp,peel,cond_true,cond_false,nbeq,Nat.reduceBEq,reduceSub,reduceAdd,zero_add,sub_zero,sub_self,length_cons,length_nil,length_append,cons_append,nil_append,append_nil])|(refine s_take fun K hK => ?_)|(refine s_cons (fun K hK => ?_) ?_)|exact s_tnil|refine s_br ?_|refine s_done ?_|refine s_seq fun K hK => ?_|refine s_region ?_|refine s_draw ?_|refine s_tree ?_|refine s_op fun K hK => ?_|refine s_opq fun K hK => ?_|refine s_ops ?_|refine s_endq ?_|simp only [go_sem,reduceToNat,reduceEq,reduceAdd,Nat.reduceBEq,reduceLeDiff,reduceLT,Int.reduceLT,reduceLE,reduceNeg,reduceCtorEq,d2,d3,e1,e2,e3,e4,e5,e6,hs1,areBytes]|(first|(refine hK _ ?_;clear hK K)|(clear hK K;refine hK _ ?_;clear hK K)|(clear hK K;clear hK K;refine hK _ ?_;clear hK K))|refine And.intro ?_ ?_
            all_goals first|exact hsz|decide|(simp;done)|(refine hK1 _ ⟨(q,sd ++ out),hst⟩ ?_ hlt <;> simp [StLe,leT,leH,A.Le,A.LeL,O.Le,lkp,freeT,freeH,A.free,A.freeL,cond_true,cond_false,nbeq,nble,nblt,decide_true,decide_false,reduceLT,Nat.reduceBEq,true_and,and_true,length_cons,length_nil,true_implies,and_self,Bool.and_true,Bool.true_and,Bool.and_self])|skip
          · have d3 : decide (-(r : Int) < 0) = true:=decide_eq_true (by clear e1 e2 e3 e4 e5;omega)
            repeat' first|first|refine s_opt1 ?_|refine s_opt0 ?_|refine s_optq1 ?_|refine s_optq0 ?_|(refine s_norm ?_;try simp only [wsN,wsI,rmv,rng,X.ev,lkp,peel,cond_true,cond_false,nbeq,Nat.reduceBEq,reduceSub,reduceAdd,zero_add,sub_zero,sub_self,length_cons,length_nil,length_append,cons_append,nil_append,append_nil])|(refine s_take fun K hK => ?_)|(refine s_cons (fun K hK => ?_) ?_)|exact s_tnil|refine s_br ?_|refine s_done ?_|refine s_seq fun K hK => ?_|refine s_region ?_|refine s_draw ?_|refine s_tree ?_|refine s_op fun K hK => ?_|refine s_opq fun K hK => ?_|refine s_ops ?_|refine s_endq ?_|simp only [go_sem,reduceToNat,reduceEq,reduceAdd,Nat.reduceBEq,reduceLeDiff,reduceLT,Int.reduceLT,reduceLE,reduceNeg,reduceCtorEq,d2,d3,e1,e2,e3,e4,e5,hs1,areBytes]|(first|(refine hK _ ?_;clear hK K)|(clear hK K;refine hK _ ?_;clear hK K)|(clear hK K;clear hK K;refine hK _ ?_;clear hK K))|refine And.intro ?_ ?_
            all_goals first|exact hsz|decide|(simp;done)|(refine hK1 _ ⟨(q,sd ++ out),hst⟩ ?_ hlt <;> simp [StLe,leT,leH,A.Le,A.LeL,O.Le,lkp,freeT,freeH,A.free,A.freeL,cond_true,cond_false,nbeq,nble,nblt,decide_true,decide_false,reduceLT,Nat.reduceBEq,true_and,and_true,length_cons,length_nil,true_implies,and_self,Bool.and_true,Bool.true_and,Bool.and_self])|skip
    · have d1 : decide (n < 0) = false:=decide_eq_false hn
      repeat' first|first|refine s_opt1 ?_|refine s_opt0 ?_|refine s_optq1 ?_|refine s_optq0 ?_|(refine s_norm ?_;try simp only [wsN,wsI,rmv,rng,X.ev,lkp,peel,cond_true,cond_false,nbeq,Nat.reduceBEq,reduceSub,reduceAdd,zero_add,sub_zero,sub_self,length_cons,length_nil,length_append,cons_append,nil_append,append_nil])|(refine s_take fun K hK => ?_)|(refine s_cons (fun K hK => ?_) ?_)|exact s_tnil|refine s_br ?_|refine s_done ?_|refine s_seq fun K hK => ?_|refine s_region ?_|refine s_draw ?_|refine s_tree ?_|refine s_op fun K hK => ?_|refine s_opq fun K hK => ?_|refine s_ops ?_|refine s_endq ?_|simp only [go_sem,reduceToNat,reduceEq,reduceAdd,Nat.reduceBEq,reduceLeDiff,reduceLT,Int.reduceLT,reduceLE,reduceNeg,reduceCtorEq,d0,d1]|(first|(refine hK _ ?_;clear hK K)|(clear hK K;refine hK _ ?_;clear hK K)|(clear hK K;clear hK K;refine hK _ ?_;clear hK K))|refine And.intro ?_ ?_
      refine s_loop { p : Nat × ByteArray // DigI n.natAbs p.1 p.2 } (fun p => ⟨[(0,.d false (.int .i64 (p.1.1 : Int))),(3,.d true (.bool false)),(4,.d true (.str p.1.2))],[]⟩) (fun p => p.1.1) ⟨(n.natAbs,⟨#[]⟩),Nat.le_refl _,fun _ => by simp,fun h => by omega⟩ ?_ ?_
      · simp [StLe,leT,leH,A.Le,A.LeL,O.Le,lkp,freeT,freeH,A.free,A.freeL,cond_true,cond_false,nbeq,nble,nblt,decide_true,decide_false,reduceLT,Nat.reduceBEq,true_and,and_true,length_cons,length_nil,true_implies,and_self,Bool.and_true,Bool.true_and,Bool.and_self]
        omega
      · rintro ⟨⟨m,out⟩,hI⟩ K1 hK1
        have hI':=hI
        obtain ⟨h1,h3,h4⟩:=hI'
        simp only at h1 h3 h4 ⊢
        by_cases hm : m = 0
        · have d2 : decide ((m : Int) = 0) = true:=decide_eq_true (by omega)
          have h5:=dig_nonneg hn (h4 hm)
          repeat' first|first|refine s_opt1 ?_|refine s_opt0 ?_|refine s_optq1 ?_|refine s_optq0 ?_|(refine s_norm ?_;try simp only [wsN,wsI,rmv,rng,X.ev,lkp,peel,cond_true,cond_false,nbeq,Nat.reduceBEq,reduceSub,reduceAdd,zero_add,sub_zero,sub_self,length_cons,length_nil,length_append,cons_append,nil_append,append_nil])|(refine s_take fun K hK => ?_)|(refine s_cons (fun K hK => ?_) ?_)|exact s_tnil|refine s_br ?_|refine s_done ?_|refine s_seq fun K hK => ?_|refine s_region ?_|refine s_draw ?_|refine s_tree ?_|refine s_op fun K hK => ?_|refine s_opq fun K hK => ?_|refine s_ops ?_|refine s_endq ?_|simp only [go_sem,reduceToNat,reduceEq,reduceAdd,Nat.reduceBEq,reduceLeDiff,reduceLT,Int.reduceLT,reduceLE,reduceNeg,reduceCtorEq,d2,h5]|(first|(refine hK _ ?_;clear hK K)|(clear hK K;refine hK _ ?_;clear hK K)|(clear hK K;clear hK K;refine hK _ ?_;clear hK K))|refine And.intro ?_ ?_
          all_goals first|(simp [go_sem,tids,A.tid,A.tid.go,cons_append,frzT,St.frz,A.sub,A.subL,O.sub,subT,subH,frzY,frzZ,Post,aret,evRs,RV.ev,tupA,A.Le,A.LeL,lkp,St.frzs,A.ids,A.idsL,cond_true,cond_false,nbeq,nble,decide_true,decide_false,reduceLeDiff,Nat.reduceBEq,reduceAdd,beq_self_eq_true,true_and,and_true,true_implies,append_nil,nil_append,getElem?_cons_zero,getElem?_cons_succ,length_cons,length_nil,drop_zero,take_succ_cons,take_zero,and_self];done)|(simp [go_sem,tids,A.tid,A.tid.go,cons_append,frzT,St.frz,A.sub,A.subL,O.sub,subT,subH,frzY,frzZ,Post,aret,evRs,RV.ev,tupA,A.Le,A.LeL,lkp,St.frzs,A.ids,A.idsL,cond_true,cond_false,nbeq,nble,decide_true,decide_false,reduceLeDiff,Nat.reduceBEq,reduceAdd,beq_self_eq_true,true_and,and_true,true_implies,append_nil,nil_append,getElem?_cons_zero,getElem?_cons_succ,length_cons,length_nil,drop_zero,take_succ_cons,take_zero,and_self,h5];done)|skip
        · have d2 : decide ((m : Int) = 0) = false:=decide_eq_false (by omega)
          obtain ⟨r,hr1⟩ : ∃ r,r = m % 10:=⟨_,rfl⟩
          obtain ⟨q,hq1⟩ : ∃ q,q = m / 10:=⟨_,rfl⟩
          obtain ⟨d,hd1⟩ : ∃ d,d = 48 + r:=⟨_,rfl⟩
          obtain ⟨sd,hs1⟩ : ∃ sd : ByteArray,sd = ⟨(bytesD [[D.int .u8 (d : Int)]]).toArray⟩:=⟨_,rfl⟩
          have hsd : sd.data.toList = [UInt8.ofNat (48 + m % 10)]:=by rw [hs1,← hr1,← hd1];simp [bytesD]
          have hr10 : r < 10:=by rw [hr1];exact Nat.mod_lt _ (by decide)
          have hd2 : d < 256:=by rw [hd1];omega
          have hlt : q < m:=by rw [hq1];exact Nat.div_lt_self (by omega) (by decide)
          have hst:=digI_step hI hm hsd
          rw [← hq1] at hst
          have hsz : sd.size + out.size ≤ 4611686018427387904:=by
            have:=congrArg List.length (h3 hm)
            rw [length_append,← Lib.size_eq out] at this
            have h7 : sd.size = 1:=by rw [Lib.size_eq,hsd];rfl
            omega
          have e1 : (m : Int).tmod 10 = (r : Int):=by rw [Int.tmod_eq_emod_of_nonneg (by omega)];omega
          have e2 : wrap64 ((m : Int).tdiv 10) = (q : Int):=by rw [Int.tdiv_eq_ediv_of_nonneg (by omega),w64 (by omega) (by omega)];omega
          have e3 : wrap64 (48 + (r : Int)) = (d : Int):=by rw [w64 (by omega) (by omega)];omega
          have e4 : IntKind.u8.wrap (d : Int) = (d : Int):=u8_small hd2
          have d3 : decide ((r : Int) < 0) = false:=decide_eq_false (Int.not_lt.2 (Int.natCast_nonneg r))
          rw [eq_comm] at hs1
          clear hq1 hr1 h1 h3 h4
          repeat' first|first|refine s_opt1 ?_|refine s_opt0 ?_|refine s_optq1 ?_|refine s_optq0 ?_|(refine s_norm ?_;try simp only [wsN,wsI,rmv,rng,X.ev,lkp,peel,cond_true,cond_false,nbeq,Nat.reduceBEq,reduceSub,reduceAdd,zero_add,sub_zero,sub_self,length_cons,length_nil,length_append,cons_append,nil_append,append_nil])|(refine s_take fun K hK => ?_)|(refine s_cons (fun K hK => ?_) ?_)|exact s_tnil|refine s_br ?_|refine s_done ?_|refine s_seq fun K hK => ?_|refine s_region ?_|refine s_draw ?_|refine s_tree ?_|refine s_op fun K hK => ?_|refine s_opq fun K hK => ?_|refine s_ops ?_|refine s_endq ?_|simp only [go_sem,reduceToNat,reduceEq,reduceAdd,Nat.reduceBEq,reduceLeDiff,reduceLT,Int.reduceLT,reduceLE,reduceNeg,reduceCtorEq,d2,d3,e1,e2,e3,e4,hs1,areBytes]|(first|(refine hK _ ?_;clear hK K)|(clear hK K;refine hK _ ?_;clear hK K)|(clear hK K;clear hK K;refine hK _ ?_;clear hK K))|refine And.intro ?_ ?_
          all_goals first|exact hsz|decide|(simp;done)|(refine hK1 _ ⟨(q,sd ++ out),hst⟩ ?_ hlt <;> simp [StLe,leT,leH,A.Le,A.LeL,O.Le,lkp,freeT,freeH,A.free,A.freeL,cond_true,cond_false,nbeq,nble,nblt,decide_true,decide_false,reduceLT,Nat.reduceBEq,true_and,and_true,length_cons,length_nil,true_implies,and_self,Bool.and_true,Bool.true_and,Bool.and_self])|skip
end Go.Proofs.YtlddcimpdkcgeaaGreatDoor
