/- Marks: their text, and what marked terms are. -/
import Derived.Test.YtlddcimpdkcgeaaGreatDoorT1
import Derived.Test.YtlddcimpdkcgeaaGreatDoorFns
set_option linter.unusedVariables false
set_option linter.unusedSimpArgs false
set_option maxHeartbeats 2000000
namespace Go.Proofs.YtlddcimpdkcgeaaGreatDoor
open List (length_cons length_nil cons_append nil_append append_nil getElem?_cons_succ getElem?_cons_zero take_succ_cons take_zero drop_zero)
open Nat (reduceLeDiff reduceAdd reduceLT)
open Int (reduceToNat reduceNeg reduceEq reduceLE toNat_natCast)
open Go.RowKit Sym
def mdig : Nat → Nat → ByteArray → ByteArray
  | 0,_,out => out
  | f + 1,k,out => if k = 0 then out else mdig f (k / 10) (⟨#[UInt8.ofNat (48 + k % 10)]⟩ ++ out)
def mtext (k : Int) : ByteArray:=if k ≤ 0 then ⟨#[109,48]⟩ else ⟨#[109]⟩ ++ mdig 20 k.toNat ⟨#[]⟩
attribute [irreducible] mdig mtext
theorem markText_ct (k : Int) (h0 : k ≤ 9223372036854775807) : Ct Tryz.prog 64 [.d false (.int .i64 k)] (.d true (.str (mtext k))):=by
  refine ok64.ct mo Tryz.func64 (by simp) rfl fun hok => ?_
  unfold ac64 mtext
  repeat first|refine s_seq fun K hK => ?_|(refine s_region ?_;simp only [go_sem,reduceToNat,reduceEq,reduceAdd,Nat.reduceBEq,reduceLeDiff,reduceLT,Int.reduceLT,reduceLE,reduceNeg,reduceCtorEq])|(refine s_tree ?_;simp only [go_sem,reduceToNat,reduceEq,reduceAdd,Nat.reduceBEq,reduceLeDiff,reduceLT,Int.reduceLT,reduceLE,reduceNeg,reduceCtorEq])|(refine s_draw ?_;simp only [go_sem,reduceToNat,reduceEq,reduceAdd,Nat.reduceBEq,reduceLeDiff,reduceLT,Int.reduceLT,reduceLE,reduceNeg,reduceCtorEq])|(first|(refine hK _ ?_;clear hK K)|(clear hK K;refine hK _ ?_;clear hK K)|(clear hK K;clear hK K;refine hK _ ?_;clear hK K))|simp only [Bool.not_true,Bool.not_false,Bool.false_eq_true,Bool.true_eq_false,reduceCtorEq,false_implies,true_implies,true_and,and_true,X.ev,lkp,cond_true,cond_false,nbeq,beq_self_eq_true,Nat.reduceBEq,awp_skip,awp_ret,awp_exit,awp_block,awp_cond,thenK_norm,thenK_ret,thenK_exit,blockK_norm,blockK_ret,blockK_exit]|simp only [go_sem,reduceToNat,reduceEq,reduceAdd,Nat.reduceBEq,reduceLeDiff,reduceLT,Int.reduceLT,reduceLE,reduceNeg,reduceCtorEq]
  refine ⟨fun hb => ?_,fun hb => ?_⟩
  · simp only [decide_eq_true_eq] at hb
    simp only [if_pos hb] at hK
    repeat first|refine s_seq fun K hK => ?_|(refine s_region ?_;simp only [go_sem,reduceToNat,reduceEq,reduceAdd,Nat.reduceBEq,reduceLeDiff,reduceLT,Int.reduceLT,reduceLE,reduceNeg,reduceCtorEq])|(refine s_tree ?_;simp only [go_sem,reduceToNat,reduceEq,reduceAdd,Nat.reduceBEq,reduceLeDiff,reduceLT,Int.reduceLT,reduceLE,reduceNeg,reduceCtorEq])|(refine s_draw ?_;simp only [go_sem,reduceToNat,reduceEq,reduceAdd,Nat.reduceBEq,reduceLeDiff,reduceLT,Int.reduceLT,reduceLE,reduceNeg,reduceCtorEq])|(first|(refine hK _ ?_;clear hK K)|(clear hK K;refine hK _ ?_;clear hK K)|(clear hK K;clear hK K;refine hK _ ?_;clear hK K))|simp only [Bool.not_true,Bool.not_false,Bool.false_eq_true,Bool.true_eq_false,reduceCtorEq,false_implies,true_implies,true_and,and_true,X.ev,lkp,cond_true,cond_false,nbeq,beq_self_eq_true,Nat.reduceBEq,awp_skip,awp_ret,awp_exit,awp_block,awp_cond,thenK_norm,thenK_ret,thenK_exit,blockK_norm,blockK_ret,blockK_exit]|simp only [go_sem,reduceToNat,reduceEq,reduceAdd,Nat.reduceBEq,reduceLeDiff,reduceLT,Int.reduceLT,reduceLE,reduceNeg,reduceCtorEq]
    simp [go_sem,tids,A.tid,A.tid.go,cons_append,frzT,St.frz,A.sub,A.subL,O.sub,subT,subH,frzY,frzZ,Post,aret,evRs,RV.ev,tupA,A.Le,A.LeL,lkp,St.frzs,A.ids,A.idsL,cond_true,cond_false,nbeq,nble,decide_true,decide_false,reduceLeDiff,Nat.reduceBEq,reduceAdd,beq_self_eq_true,true_and,and_true,true_implies,append_nil,nil_append,getElem?_cons_zero,getElem?_cons_succ,length_cons,length_nil,drop_zero,take_succ_cons,take_zero,and_self]
    intro h
    omega
  · simp only [decide_eq_false_iff_not] at hb
    simp only [if_neg hb] at hK
    have hq0 : ∃ f : Nat,f = 20:=⟨20,rfl⟩
    obtain ⟨f0,hf0⟩:=hq0
    rw [← hf0] at hK
    generalize hq : mdig f0 k.toNat ⟨#[]⟩ = q at hK
    repeat first|refine s_seq fun K hK => ?_|(refine s_region ?_;simp only [go_sem,reduceToNat,reduceEq,reduceAdd,Nat.reduceBEq,reduceLeDiff,reduceLT,Int.reduceLT,reduceLE,reduceNeg,reduceCtorEq])|(refine s_tree ?_;simp only [go_sem,reduceToNat,reduceEq,reduceAdd,Nat.reduceBEq,reduceLeDiff,reduceLT,Int.reduceLT,reduceLE,reduceNeg,reduceCtorEq])|(refine s_draw ?_;simp only [go_sem,reduceToNat,reduceEq,reduceAdd,Nat.reduceBEq,reduceLeDiff,reduceLT,Int.reduceLT,reduceLE,reduceNeg,reduceCtorEq])|(first|(refine hK _ ?_;clear hK K)|(clear hK K;refine hK _ ?_;clear hK K)|(clear hK K;clear hK K;refine hK _ ?_;clear hK K))|simp only [Bool.not_true,Bool.not_false,Bool.false_eq_true,Bool.true_eq_false,reduceCtorEq,false_implies,true_implies,true_and,and_true,X.ev,lkp,cond_true,cond_false,nbeq,beq_self_eq_true,Nat.reduceBEq,awp_skip,awp_ret,awp_exit,awp_block,awp_cond,thenK_norm,thenK_ret,thenK_exit,blockK_norm,blockK_ret,blockK_exit]|simp only [go_sem,reduceToNat,reduceEq,reduceAdd,Nat.reduceBEq,reduceLeDiff,reduceLT,Int.reduceLT,reduceLE,reduceNeg,reduceCtorEq]
    refine s_loop { p : Nat × Nat × ByteArray // p.2.1 < 10 ^ p.1 ∧ p.2.1 ≤ 9223372036854775807 ∧ p.2.2.size + p.1 ≤ 20 ∧ mdig p.1 p.2.1 p.2.2 = q } (fun p => ⟨[(0,.d false (.int .i64 p.1.2.1)),(3,.d true (.str p.1.2.2))],[]⟩) (fun p => p.1.1) ⟨(f0,k.toNat,⟨#[]⟩),by simp only [hf0];omega,by simp only;omega,by simp only [hf0];exact Nat.le_refl 20,hq⟩ ?_ ?_
    · simp [StLe,leT,leH,A.Le,A.LeL,O.Le,lkp,freeT,freeH,A.free,A.freeL,cond_true,cond_false,nbeq,nble,nblt,decide_true,decide_false,reduceLT,Nat.reduceBEq,true_and,and_true,length_cons,length_nil,true_implies,and_self,Bool.and_true,Bool.true_and,Bool.and_self]
      omega
    · rintro ⟨⟨f,m,out⟩,h1,h1',h2,h3⟩ K1 hK1
      simp only at h1 h1' h2 h3
      repeat first|refine s_seq fun K hK => ?_|(refine s_region ?_;simp only [go_sem,reduceToNat,reduceEq,reduceAdd,Nat.reduceBEq,reduceLeDiff,reduceLT,Int.reduceLT,reduceLE,reduceNeg,reduceCtorEq])|(refine s_tree ?_;simp only [go_sem,reduceToNat,reduceEq,reduceAdd,Nat.reduceBEq,reduceLeDiff,reduceLT,Int.reduceLT,reduceLE,reduceNeg,reduceCtorEq])|(refine s_draw ?_;simp only [go_sem,reduceToNat,reduceEq,reduceAdd,Nat.reduceBEq,reduceLeDiff,reduceLT,Int.reduceLT,reduceLE,reduceNeg,reduceCtorEq])|(first|(refine hK _ ?_;clear hK K)|(clear hK K;refine hK _ ?_;clear hK K)|(clear hK K;clear hK K;refine hK _ ?_;clear hK K))|simp only [Bool.not_true,Bool.not_false,Bool.false_eq_true,Bool.true_eq_false,reduceCtorEq,false_implies,true_implies,true_and,and_true,X.ev,lkp,cond_true,cond_false,nbeq,beq_self_eq_true,Nat.reduceBEq,awp_skip,awp_ret,awp_exit,awp_block,awp_cond,thenK_norm,thenK_ret,thenK_exit,blockK_norm,blockK_ret,blockK_exit]|simp only [go_sem,reduceToNat,reduceEq,reduceAdd,Nat.reduceBEq,reduceLeDiff,reduceLT,Int.reduceLT,reduceLE,reduceNeg,reduceCtorEq]
      refine ⟨fun hc => ?_,fun hc => ?_⟩
      · simp only [decide_eq_true_eq] at hc
        have hf : f ≠ 0:=by rintro rfl;simp at h1;omega
        obtain ⟨f,rfl⟩ : ∃ g,f = g + 1:=⟨f - 1,by omega⟩
        first|(refine hK _ ?_;clear hK K)|(clear hK K;refine hK _ ?_;clear hK K)|(clear hK K;clear hK K;refine hK _ ?_;clear hK K)
        refine s_seq fun K hK => ?_
        refine s_region ?_
        (refine s_op fun K hK => ?_;simp only [go_sem,reduceToNat,reduceEq,reduceAdd,Nat.reduceBEq,reduceLeDiff,reduceLT,Int.reduceLT,reduceLE,reduceNeg,reduceCtorEq];first|(refine hK _ ?_;clear hK K)|skip)
        refine s_op fun K hK => ?_
        simp only [go_sem,reduceToNat,reduceEq,reduceAdd,Nat.reduceBEq,reduceLeDiff,reduceLT,Int.reduceLT,reduceLE,reduceNeg,reduceCtorEq]
        rw [show (m : Int).tmod 10 = ((m % 10 : Nat) : Int) by rw [Int.tmod_eq_emod_of_nonneg (by omega)];omega]
        have hr : m % 10 < 10:=Nat.mod_lt _ (by decide)
        have hm : mdig f (m / 10) (⟨#[UInt8.ofNat (48 + m % 10)]⟩ ++ out) = q:=by rw [← h3,mdig,if_neg (by omega)]
        generalize m % 10 = r at *
        first|(refine hK _ ?_;clear hK K)|(clear hK K;refine hK _ ?_;clear hK K)|(clear hK K;clear hK K;refine hK _ ?_;clear hK K)
        refine s_op fun K hK => ?_
        simp only [go_sem,reduceToNat,reduceEq,reduceAdd,Nat.reduceBEq,reduceLeDiff,reduceLT,Int.reduceLT,reduceLE,reduceNeg,reduceCtorEq]
        rw [show wrap64 (48 + (r : Int)) = ((48 + r : Nat) : Int) by rw [w64 (by omega) (by omega)];omega]
        have hd : 48 + r < 256:=by omega
        generalize 48 + r = d at *
        first|(refine hK _ ?_;clear hK K)|(clear hK K;refine hK _ ?_;clear hK K)|(clear hK K;clear hK K;refine hK _ ?_;clear hK K)
        refine s_op fun K hK => ?_
        simp only [go_sem,reduceToNat,reduceEq,reduceAdd,Nat.reduceBEq,reduceLeDiff,reduceLT,Int.reduceLT,reduceLE,reduceNeg,reduceCtorEq]
        rw [show IntKind.u8.wrap (d : Int) = (d : Int) by simp only [IntKind.wrap,IntKind.signed,IntKind.bits];simp;omega]
        first|(refine hK _ ?_;clear hK K)|(clear hK K;refine hK _ ?_;clear hK K)|(clear hK K;clear hK K;refine hK _ ?_;clear hK K)
        refine s_op fun K hK => ?_
        simp only [go_sem,reduceToNat,reduceEq,reduceAdd,Nat.reduceBEq,reduceLeDiff,reduceLT,Int.reduceLT,reduceLE,reduceNeg,reduceCtorEq]
        refine ⟨by simp,?_⟩
        first|(refine hK _ ?_;clear hK K)|(clear hK K;refine hK _ ?_;clear hK K)|(clear hK K;clear hK K;refine hK _ ?_;clear hK K)
        refine s_op fun K hK => ?_
        simp only [go_sem,reduceToNat,reduceEq,reduceAdd,Nat.reduceBEq,reduceLeDiff,reduceLT,Int.reduceLT,reduceLE,reduceNeg,reduceCtorEq]
        refine ⟨by simp [areBytes],?_⟩
        first|(refine hK _ ?_;clear hK K)|(clear hK K;refine hK _ ?_;clear hK K)|(clear hK K;clear hK K;refine hK _ ?_;clear hK K)
        rw [show (⟨(bytesD [[D.int .u8 (d : Int)]]).toArray⟩ : ByteArray) = ⟨#[UInt8.ofNat d]⟩ by simp [bytesD]]
        have hz : (⟨#[UInt8.ofNat d]⟩ : ByteArray).size = 1:=rfl
        generalize (⟨#[UInt8.ofNat d]⟩ : ByteArray) = sd at *
        repeat first|refine s_seq fun K hK => ?_|(refine s_region ?_;simp only [go_sem,reduceToNat,reduceEq,reduceAdd,Nat.reduceBEq,reduceLeDiff,reduceLT,Int.reduceLT,reduceLE,reduceNeg,reduceCtorEq])|(refine s_tree ?_;simp only [go_sem,reduceToNat,reduceEq,reduceAdd,Nat.reduceBEq,reduceLeDiff,reduceLT,Int.reduceLT,reduceLE,reduceNeg,reduceCtorEq])|(refine s_draw ?_;simp only [go_sem,reduceToNat,reduceEq,reduceAdd,Nat.reduceBEq,reduceLeDiff,reduceLT,Int.reduceLT,reduceLE,reduceNeg,reduceCtorEq])|(first|(refine hK _ ?_;clear hK K)|(clear hK K;refine hK _ ?_;clear hK K)|(clear hK K;clear hK K;refine hK _ ?_;clear hK K))|simp only [Bool.not_true,Bool.not_false,Bool.false_eq_true,Bool.true_eq_false,reduceCtorEq,false_implies,true_implies,true_and,and_true,X.ev,lkp,cond_true,cond_false,nbeq,beq_self_eq_true,Nat.reduceBEq,awp_skip,awp_ret,awp_exit,awp_block,awp_cond,thenK_norm,thenK_ret,thenK_exit,blockK_norm,blockK_ret,blockK_exit]|simp only [go_sem,reduceToNat,reduceEq,reduceAdd,Nat.reduceBEq,reduceLeDiff,reduceLT,Int.reduceLT,reduceLE,reduceNeg,reduceCtorEq]
        refine ⟨by omega,?_⟩
        repeat first|refine s_seq fun K hK => ?_|(refine s_region ?_;simp only [go_sem,reduceToNat,reduceEq,reduceAdd,Nat.reduceBEq,reduceLeDiff,reduceLT,Int.reduceLT,reduceLE,reduceNeg,reduceCtorEq])|(refine s_tree ?_;simp only [go_sem,reduceToNat,reduceEq,reduceAdd,Nat.reduceBEq,reduceLeDiff,reduceLT,Int.reduceLT,reduceLE,reduceNeg,reduceCtorEq])|(refine s_draw ?_;simp only [go_sem,reduceToNat,reduceEq,reduceAdd,Nat.reduceBEq,reduceLeDiff,reduceLT,Int.reduceLT,reduceLE,reduceNeg,reduceCtorEq])|(first|(refine hK _ ?_;clear hK K)|(clear hK K;refine hK _ ?_;clear hK K)|(clear hK K;clear hK K;refine hK _ ?_;clear hK K))|simp only [Bool.not_true,Bool.not_false,Bool.false_eq_true,Bool.true_eq_false,reduceCtorEq,false_implies,true_implies,true_and,and_true,X.ev,lkp,cond_true,cond_false,nbeq,beq_self_eq_true,Nat.reduceBEq,awp_skip,awp_ret,awp_exit,awp_block,awp_cond,thenK_norm,thenK_ret,thenK_exit,blockK_norm,blockK_ret,blockK_exit]|simp only [go_sem,reduceToNat,reduceEq,reduceAdd,Nat.reduceBEq,reduceLeDiff,reduceLT,Int.reduceLT,reduceLE,reduceNeg,reduceCtorEq]
        rw [show wrap64 ((m : Int).tdiv 10) = ((m / 10 : Nat) : Int) by rw [Int.tdiv_eq_ediv_of_nonneg (by omega),w64 (by omega) (by omega)];omega]
        refine ⟨by decide,?_⟩
        refine hK1 _ ⟨(f,m / 10,sd ++ out),by simp only;rw [Nat.pow_succ] at h1;omega,by simp only;omega,by simp only [ByteArray.size_append];omega,hm⟩ ?_ (by simp)
        simp [StLe,leT,leH,A.Le,A.LeL,O.Le,lkp,freeT,freeH,A.free,A.freeL,cond_true,cond_false,nbeq,nble,nblt,decide_true,decide_false,reduceLT,Nat.reduceBEq,true_and,and_true,length_cons,length_nil,true_implies,and_self,Bool.and_true,Bool.true_and,Bool.and_self]
      · simp only [decide_eq_false_iff_not] at hc
        repeat first|refine s_seq fun K hK => ?_|(refine s_region ?_;simp only [go_sem,reduceToNat,reduceEq,reduceAdd,Nat.reduceBEq,reduceLeDiff,reduceLT,Int.reduceLT,reduceLE,reduceNeg,reduceCtorEq])|(refine s_tree ?_;simp only [go_sem,reduceToNat,reduceEq,reduceAdd,Nat.reduceBEq,reduceLeDiff,reduceLT,Int.reduceLT,reduceLE,reduceNeg,reduceCtorEq])|(refine s_draw ?_;simp only [go_sem,reduceToNat,reduceEq,reduceAdd,Nat.reduceBEq,reduceLeDiff,reduceLT,Int.reduceLT,reduceLE,reduceNeg,reduceCtorEq])|(first|(refine hK _ ?_;clear hK K)|(clear hK K;refine hK _ ?_;clear hK K)|(clear hK K;clear hK K;refine hK _ ?_;clear hK K))|simp only [Bool.not_true,Bool.not_false,Bool.false_eq_true,Bool.true_eq_false,reduceCtorEq,false_implies,true_implies,true_and,and_true,X.ev,lkp,cond_true,cond_false,nbeq,beq_self_eq_true,Nat.reduceBEq,awp_skip,awp_ret,awp_exit,awp_block,awp_cond,thenK_norm,thenK_ret,thenK_exit,blockK_norm,blockK_ret,blockK_exit]|simp only [go_sem,reduceToNat,reduceEq,reduceAdd,Nat.reduceBEq,reduceLeDiff,reduceLT,Int.reduceLT,reduceLE,reduceNeg,reduceCtorEq]
        have hm : m = 0:=by omega
        subst hm
        have h4 : q = out:=by rw [← h3];cases f <;> simp [mdig]
        rw [h4] at hK
        refine ⟨by simp;omega,?_⟩
        repeat first|refine s_seq fun K hK => ?_|(refine s_region ?_;simp only [go_sem,reduceToNat,reduceEq,reduceAdd,Nat.reduceBEq,reduceLeDiff,reduceLT,Int.reduceLT,reduceLE,reduceNeg,reduceCtorEq])|(refine s_tree ?_;simp only [go_sem,reduceToNat,reduceEq,reduceAdd,Nat.reduceBEq,reduceLeDiff,reduceLT,Int.reduceLT,reduceLE,reduceNeg,reduceCtorEq])|(refine s_draw ?_;simp only [go_sem,reduceToNat,reduceEq,reduceAdd,Nat.reduceBEq,reduceLeDiff,reduceLT,Int.reduceLT,reduceLE,reduceNeg,reduceCtorEq])|(first|(refine hK _ ?_;clear hK K)|(clear hK K;refine hK _ ?_;clear hK K)|(clear hK K;clear hK K;refine hK _ ?_;clear hK K))|simp only [Bool.not_true,Bool.not_false,Bool.false_eq_true,Bool.true_eq_false,reduceCtorEq,false_implies,true_implies,true_and,and_true,X.ev,lkp,cond_true,cond_false,nbeq,beq_self_eq_true,Nat.reduceBEq,awp_skip,awp_ret,awp_exit,awp_block,awp_cond,thenK_norm,thenK_ret,thenK_exit,blockK_norm,blockK_ret,blockK_exit]|simp only [go_sem,reduceToNat,reduceEq,reduceAdd,Nat.reduceBEq,reduceLeDiff,reduceLT,Int.reduceLT,reduceLE,reduceNeg,reduceCtorEq]
        simp [go_sem,tids,A.tid,A.tid.go,cons_append,frzT,St.frz,A.sub,A.subL,O.sub,subT,subH,frzY,frzZ,Post,aret,evRs,RV.ev,tupA,A.Le,A.LeL,lkp,St.frzs,A.ids,A.idsL,cond_true,cond_false,nbeq,nble,decide_true,decide_false,reduceLeDiff,Nat.reduceBEq,reduceAdd,beq_self_eq_true,true_and,and_true,true_implies,append_nil,nil_append,getElem?_cons_zero,getElem?_cons_succ,length_cons,length_nil,drop_zero,take_succ_cons,take_zero,and_self]
mutual
def Term.nods : Term → Nat
  | .mk _ _ _ kids => 1 + nodsL kids
def nodsL : List Term → Nat
  | [] => 0
  | t :: ts => t.nods + nodsL ts
end
mutual
def markT (k : Int) : Term → Term
  | .mk _ _ _ kids => .mk k (k + 1) (mtext (k + 2)) (markTs (k + 3) kids)
def markTs (k : Int) : List Term → List Term
  | [] => []
  | t :: ts => markT k t :: markTs (k + 3 * t.nods) ts
end
theorem Term.nods_eq (t : Term) : t.nods = 1 + nodsL t.kids:=by cases t;simp [Term.nods,Term.kids]
theorem markT_eq (k : Int) (t : Term) : markT k t = .mk k (k + 1) (mtext (k + 2)) (markTs (k + 3) t.kids):=by cases t;simp [markT,Term.kids]
theorem markTs_length : ∀ (k : Int) (ts : List Term),(markTs k ts).length = ts.length
  | _,[] => by simp [markTs]
  | k,t :: ts => by simp [markTs,markTs_length _ ts]
theorem nodsL_take (ts : List Term) (i : Nat) (h : i < ts.length) : nodsL (ts.take (i + 1)) = nodsL (ts.take i) + ts[i].nods:=by
  induction ts generalizing i with
  | nil => simp at h
  | cons t ts ih =>
    cases i with
    | zero => simp [nodsL]
    | succ i => simp only [take_succ_cons,nodsL,List.getElem_cons_succ];rw [ih i (by simpa using h)];omega
theorem nodsL_take_le (ts : List Term) (i : Nat) : nodsL (ts.take i) ≤ nodsL ts:=by
  induction ts generalizing i with
  | nil => simp [nodsL]
  | cons t ts ih =>
    cases i with
    | zero => simp [nodsL]
    | succ i => simp only [take_succ_cons,nodsL];have:=ih i;omega
theorem markTs_get (k : Int) (ts : List Term) (i : Nat) (h : i < ts.length) : (markTs k ts)[i]? = some (markT (k + 3 * nodsL (ts.take i)) ts[i]):=by
  induction ts generalizing i k with
  | nil => simp at h
  | cons t ts ih =>
    cases i with
    | zero => simp [markTs,nodsL]
    | succ i =>
      simp only [markTs,getElem?_cons_succ,take_succ_cons,nodsL,List.getElem_cons_succ]
      rw [ih _ i (by simpa using h)]
      congr 2
      push_cast
      omega
theorem nodsL_step (ts : List Term) (i : Nat) (h : i < ts.length) : nodsL (ts.take (i + 1)) = nodsL (ts.take i) + (1 + nodsL ts[i].kids) ∧ nodsL (ts.take (i + 1)) ≤ nodsL ts:=by
  rw [nodsL_take ts i h,Term.nods_eq]
  exact ⟨rfl,by have:=nodsL_take_le ts (i + 1);rw [nodsL_take ts i h,Term.nods_eq] at this;exact this⟩
theorem held_of (ts : List Term) (ih : ∀ u,u ∈ ts → ∀ k : Int,0 ≤ k → k + 3 * nodsL u.kids ≤ 4611686018427387904 → Ct Tryz.prog 32 [.d false (.sl (encs (markTs k u.kids))),.d false (.int .i64 k)] (.d true (.int .i64 (k + 3 * nodsL u.kids))))
    (k : Int) (h0 : 0 ≤ k) (h1 : k + 3 * nodsL ts ≤ 4611686018427387904) : Ct Tryz.prog 32 [.d false (.sl (encs (markTs k ts))),.d false (.int .i64 k)] (.d true (.int .i64 (k + 3 * nodsL ts))):=by
  refine Ct.own ?_ rfl
  refine ok32.ct mo Tryz.func32 (by simp) rfl fun hok => ?_
  have hs : ts.length ≤ 140737488355328:=by simp only [A.OkL,A.Ok,D.Ok,encs_length,markTs_length] at hok;exact hok.1.1
  unfold ac32
  repeat first|refine s_seq fun K hK => ?_|(refine s_region ?_;simp only [go_sem,reduceToNat,reduceEq,reduceAdd,Nat.reduceBEq,reduceLeDiff,reduceLT,Int.reduceLT,reduceLE,reduceNeg,reduceCtorEq])|(refine s_tree ?_;simp only [go_sem,reduceToNat,reduceEq,reduceAdd,Nat.reduceBEq,reduceLeDiff,reduceLT,Int.reduceLT,reduceLE,reduceNeg,reduceCtorEq])|(refine s_draw ?_;simp only [go_sem,reduceToNat,reduceEq,reduceAdd,Nat.reduceBEq,reduceLeDiff,reduceLT,Int.reduceLT,reduceLE,reduceNeg,reduceCtorEq])|(first|(refine hK _ ?_;clear hK K)|(clear hK K;refine hK _ ?_;clear hK K)|(clear hK K;clear hK K;refine hK _ ?_;clear hK K))|simp only [Bool.not_true,Bool.not_false,Bool.false_eq_true,Bool.true_eq_false,reduceCtorEq,false_implies,true_implies,true_and,and_true,X.ev,lkp,cond_true,cond_false,nbeq,beq_self_eq_true,Nat.reduceBEq,awp_skip,awp_ret,awp_exit,awp_block,awp_cond,thenK_norm,thenK_ret,thenK_exit,blockK_norm,blockK_ret,blockK_exit]|simp only [go_sem,reduceToNat,reduceEq,reduceAdd,Nat.reduceBEq,reduceLeDiff,reduceLT,Int.reduceLT,reduceLE,reduceNeg,reduceCtorEq]
  refine s_loop { i : Nat // i ≤ ts.length } (fun i => ⟨[(0,.d false (.sl (encs (markTs k ts)))),(1,.d false (.int .i64 (k + 3 * nodsL (ts.take i.1)))),(5,.d true (.int .i64 i.1))],[]⟩) (fun i => ts.length - i.1) ⟨0,Nat.zero_le _⟩ ?_ ?_
  · simp [StLe,leT,leH,A.Le,A.LeL,O.Le,lkp,freeT,freeH,A.free,A.freeL,cond_true,cond_false,nbeq,nble,nblt,decide_true,decide_false,reduceLT,Nat.reduceBEq,true_and,and_true,length_cons,length_nil,true_implies,and_self,Bool.and_true,Bool.true_and,Bool.and_self,nodsL]
  · rintro ⟨i,hi⟩ K1 hK1
    simp only
    repeat first|refine s_seq fun K hK => ?_|(refine s_region ?_;simp only [go_sem,reduceToNat,reduceEq,reduceAdd,Nat.reduceBEq,reduceLeDiff,reduceLT,Int.reduceLT,reduceLE,reduceNeg,reduceCtorEq,encs_length,markTs_length])|(refine s_tree ?_;simp only [go_sem,reduceToNat,reduceEq,reduceAdd,Nat.reduceBEq,reduceLeDiff,reduceLT,Int.reduceLT,reduceLE,reduceNeg,reduceCtorEq,encs_length,markTs_length])|(refine s_draw ?_;simp only [go_sem,reduceToNat,reduceEq,reduceAdd,Nat.reduceBEq,reduceLeDiff,reduceLT,Int.reduceLT,reduceLE,reduceNeg,reduceCtorEq,encs_length,markTs_length])|(first|(refine hK _ ?_;clear hK K)|(clear hK K;refine hK _ ?_;clear hK K)|(clear hK K;clear hK K;refine hK _ ?_;clear hK K))|simp only [Bool.not_true,Bool.not_false,Bool.false_eq_true,Bool.true_eq_false,reduceCtorEq,false_implies,true_implies,true_and,and_true,X.ev,lkp,cond_true,cond_false,nbeq,beq_self_eq_true,Nat.reduceBEq,awp_skip,awp_ret,awp_exit,awp_block,awp_cond,thenK_norm,thenK_ret,thenK_exit,blockK_norm,blockK_ret,blockK_exit,encs_length,markTs_length]|simp only [go_sem,reduceToNat,reduceEq,reduceAdd,Nat.reduceBEq,reduceLeDiff,reduceLT,Int.reduceLT,reduceLE,reduceNeg,reduceCtorEq,encs_length,markTs_length]
    refine ⟨fun hc => ?_,fun hc => ?_⟩
    · have hlt : i < ts.length:=by simpa using hc
      have hget:=markTs_get k ts i hlt
      have hst:=nodsL_step ts i hlt
      generalize hm : k + 3 * (nodsL (ts.take i) : Int) = m at hget
      have hm0 : 0 ≤ m ∧ m + 3 + 3 * nodsL ts[i].kids ≤ 4611686018427387904:=by omega
      rw [markT_eq] at hget
      repeat first|refine s_seq fun K hK => ?_|(refine s_region ?_;simp only [go_sem,reduceToNat,reduceEq,reduceAdd,Nat.reduceBEq,reduceLeDiff,reduceLT,Int.reduceLT,reduceLE,reduceNeg,reduceCtorEq,encs_length,markTs_length,toNat_natCast,encs_getD _ i _ hget,Term.enc])|(refine s_tree ?_;simp only [go_sem,reduceToNat,reduceEq,reduceAdd,Nat.reduceBEq,reduceLeDiff,reduceLT,Int.reduceLT,reduceLE,reduceNeg,reduceCtorEq,encs_length,markTs_length,toNat_natCast,encs_getD _ i _ hget,Term.enc])|(refine s_draw ?_;simp only [go_sem,reduceToNat,reduceEq,reduceAdd,Nat.reduceBEq,reduceLeDiff,reduceLT,Int.reduceLT,reduceLE,reduceNeg,reduceCtorEq,encs_length,markTs_length,toNat_natCast,encs_getD _ i _ hget,Term.enc])|(first|(refine hK _ ?_;clear hK K)|(clear hK K;refine hK _ ?_;clear hK K)|(clear hK K;clear hK K;refine hK _ ?_;clear hK K))|simp only [Bool.not_true,Bool.not_false,Bool.false_eq_true,Bool.true_eq_false,reduceCtorEq,false_implies,true_implies,true_and,and_true,X.ev,lkp,cond_true,cond_false,nbeq,beq_self_eq_true,Nat.reduceBEq,awp_skip,awp_ret,awp_exit,awp_block,awp_cond,thenK_norm,thenK_ret,thenK_exit,blockK_norm,blockK_ret,blockK_exit,encs_length,markTs_length,toNat_natCast,encs_getD _ i _ hget,Term.enc]|simp only [go_sem,reduceToNat,reduceEq,reduceAdd,Nat.reduceBEq,reduceLeDiff,reduceLT,Int.reduceLT,reduceLE,reduceNeg,reduceCtorEq,encs_length,markTs_length,toNat_natCast,encs_getD _ i _ hget,Term.enc]
      refine ⟨⟨by omega,by omega⟩,?_⟩
      repeat first|refine s_seq fun K hK => ?_|(refine s_region ?_;simp only [go_sem,reduceToNat,reduceEq,reduceAdd,Nat.reduceBEq,reduceLeDiff,reduceLT,Int.reduceLT,reduceLE,reduceNeg,reduceCtorEq,encs_length,markTs_length,toNat_natCast,encs_getD _ i _ hget,Term.enc])|(refine s_tree ?_;simp only [go_sem,reduceToNat,reduceEq,reduceAdd,Nat.reduceBEq,reduceLeDiff,reduceLT,Int.reduceLT,reduceLE,reduceNeg,reduceCtorEq,encs_length,markTs_length,toNat_natCast,encs_getD _ i _ hget,Term.enc])|(refine s_draw ?_;simp only [go_sem,reduceToNat,reduceEq,reduceAdd,Nat.reduceBEq,reduceLeDiff,reduceLT,Int.reduceLT,reduceLE,reduceNeg,reduceCtorEq,encs_length,markTs_length,toNat_natCast,encs_getD _ i _ hget,Term.enc])|(first|(refine hK _ ?_;clear hK K)|(clear hK K;refine hK _ ?_;clear hK K)|(clear hK K;clear hK K;refine hK _ ?_;clear hK K))|simp only [Bool.not_true,Bool.not_false,Bool.false_eq_true,Bool.true_eq_false,reduceCtorEq,false_implies,true_implies,true_and,and_true,X.ev,lkp,cond_true,cond_false,nbeq,beq_self_eq_true,Nat.reduceBEq,awp_skip,awp_ret,awp_exit,awp_block,awp_cond,thenK_norm,thenK_ret,thenK_exit,blockK_norm,blockK_ret,blockK_exit,encs_length,markTs_length,toNat_natCast,encs_getD _ i _ hget,Term.enc]|simp only [go_sem,reduceToNat,reduceEq,reduceAdd,Nat.reduceBEq,reduceLeDiff,reduceLT,Int.reduceLT,reduceLE,reduceNeg,reduceCtorEq,encs_length,markTs_length,toNat_natCast,encs_getD _ i _ hget,Term.enc]
      rw [w64 (n:=m + 1) (by omega) (by omega)]
      refine ⟨⟨by omega,by omega⟩,?_⟩
      repeat first|refine s_seq fun K hK => ?_|(refine s_region ?_;simp only [go_sem,reduceToNat,reduceEq,reduceAdd,Nat.reduceBEq,reduceLeDiff,reduceLT,Int.reduceLT,reduceLE,reduceNeg,reduceCtorEq,encs_length,markTs_length,toNat_natCast,encs_getD _ i _ hget,Term.enc])|(refine s_tree ?_;simp only [go_sem,reduceToNat,reduceEq,reduceAdd,Nat.reduceBEq,reduceLeDiff,reduceLT,Int.reduceLT,reduceLE,reduceNeg,reduceCtorEq,encs_length,markTs_length,toNat_natCast,encs_getD _ i _ hget,Term.enc])|(refine s_draw ?_;simp only [go_sem,reduceToNat,reduceEq,reduceAdd,Nat.reduceBEq,reduceLeDiff,reduceLT,Int.reduceLT,reduceLE,reduceNeg,reduceCtorEq,encs_length,markTs_length,toNat_natCast,encs_getD _ i _ hget,Term.enc])|(first|(refine hK _ ?_;clear hK K)|(clear hK K;refine hK _ ?_;clear hK K)|(clear hK K;clear hK K;refine hK _ ?_;clear hK K))|simp only [Bool.not_true,Bool.not_false,Bool.false_eq_true,Bool.true_eq_false,reduceCtorEq,false_implies,true_implies,true_and,and_true,X.ev,lkp,cond_true,cond_false,nbeq,beq_self_eq_true,Nat.reduceBEq,awp_skip,awp_ret,awp_exit,awp_block,awp_cond,thenK_norm,thenK_ret,thenK_exit,blockK_norm,blockK_ret,blockK_exit,encs_length,markTs_length,toNat_natCast,encs_getD _ i _ hget,Term.enc]|simp only [go_sem,reduceToNat,reduceEq,reduceAdd,Nat.reduceBEq,reduceLeDiff,reduceLT,Int.reduceLT,reduceLE,reduceNeg,reduceCtorEq,encs_length,markTs_length,toNat_natCast,encs_getD _ i _ hget,Term.enc]
      rw [w64 (n:=m + 1 + 1) (by omega) (by omega),show m + 1 + 1 = m + 2 by omega]
      refine ⟨⟨by omega,by omega⟩,?_⟩
      refine s_callq (markText_ct (m + 2) (by omega)) rfl ?_
      repeat first|refine s_seq fun K hK => ?_|(refine s_region ?_;simp only [go_sem,reduceToNat,reduceEq,reduceAdd,Nat.reduceBEq,reduceLeDiff,reduceLT,Int.reduceLT,reduceLE,reduceNeg,reduceCtorEq,encs_length,markTs_length,toNat_natCast,encs_getD _ i _ hget,Term.enc])|(refine s_tree ?_;simp only [go_sem,reduceToNat,reduceEq,reduceAdd,Nat.reduceBEq,reduceLeDiff,reduceLT,Int.reduceLT,reduceLE,reduceNeg,reduceCtorEq,encs_length,markTs_length,toNat_natCast,encs_getD _ i _ hget,Term.enc])|(refine s_draw ?_;simp only [go_sem,reduceToNat,reduceEq,reduceAdd,Nat.reduceBEq,reduceLeDiff,reduceLT,Int.reduceLT,reduceLE,reduceNeg,reduceCtorEq,encs_length,markTs_length,toNat_natCast,encs_getD _ i _ hget,Term.enc])|(first|(refine hK _ ?_;clear hK K)|(clear hK K;refine hK _ ?_;clear hK K)|(clear hK K;clear hK K;refine hK _ ?_;clear hK K))|simp only [Bool.not_true,Bool.not_false,Bool.false_eq_true,Bool.true_eq_false,reduceCtorEq,false_implies,true_implies,true_and,and_true,X.ev,lkp,cond_true,cond_false,nbeq,beq_self_eq_true,Nat.reduceBEq,awp_skip,awp_ret,awp_exit,awp_block,awp_cond,thenK_norm,thenK_ret,thenK_exit,blockK_norm,blockK_ret,blockK_exit,encs_length,markTs_length,toNat_natCast,encs_getD _ i _ hget,Term.enc]|simp only [go_sem,reduceToNat,reduceEq,reduceAdd,Nat.reduceBEq,reduceLeDiff,reduceLT,Int.reduceLT,reduceLE,reduceNeg,reduceCtorEq,encs_length,markTs_length,toNat_natCast,encs_getD _ i _ hget,Term.enc]
      repeat first|refine s_seq fun K hK => ?_|(refine s_region ?_;simp only [go_sem,reduceToNat,reduceEq,reduceAdd,Nat.reduceBEq,reduceLeDiff,reduceLT,Int.reduceLT,reduceLE,reduceNeg,reduceCtorEq,beqS_refl])|(refine s_tree ?_;simp only [go_sem,reduceToNat,reduceEq,reduceAdd,Nat.reduceBEq,reduceLeDiff,reduceLT,Int.reduceLT,reduceLE,reduceNeg,reduceCtorEq,beqS_refl])|(refine s_draw ?_;simp only [go_sem,reduceToNat,reduceEq,reduceAdd,Nat.reduceBEq,reduceLeDiff,reduceLT,Int.reduceLT,reduceLE,reduceNeg,reduceCtorEq,beqS_refl])|(first|(refine hK _ ?_;clear hK K)|(clear hK K;refine hK _ ?_;clear hK K)|(clear hK K;clear hK K;refine hK _ ?_;clear hK K))|simp only [Bool.not_true,Bool.not_false,Bool.false_eq_true,Bool.true_eq_false,reduceCtorEq,false_implies,true_implies,true_and,and_true,X.ev,lkp,cond_true,cond_false,nbeq,beq_self_eq_true,Nat.reduceBEq,awp_skip,awp_ret,awp_exit,awp_block,awp_cond,thenK_norm,thenK_ret,thenK_exit,blockK_norm,blockK_ret,blockK_exit,beqS_refl]|simp only [go_sem,reduceToNat,reduceEq,reduceAdd,Nat.reduceBEq,reduceLeDiff,reduceLT,Int.reduceLT,reduceLE,reduceNeg,reduceCtorEq,beqS_refl]
      rw [w64 (n:=m + 2 + 1) (by omega) (by omega),show m + 2 + 1 = m + 3 by omega]
      repeat first|refine s_seq fun K hK => ?_|(refine s_region ?_;simp only [go_sem,reduceToNat,reduceEq,reduceAdd,Nat.reduceBEq,reduceLeDiff,reduceLT,Int.reduceLT,reduceLE,reduceNeg,reduceCtorEq,encs_length,markTs_length,toNat_natCast,encs_getD _ i _ hget,Term.enc])|(refine s_tree ?_;simp only [go_sem,reduceToNat,reduceEq,reduceAdd,Nat.reduceBEq,reduceLeDiff,reduceLT,Int.reduceLT,reduceLE,reduceNeg,reduceCtorEq,encs_length,markTs_length,toNat_natCast,encs_getD _ i _ hget,Term.enc])|(refine s_draw ?_;simp only [go_sem,reduceToNat,reduceEq,reduceAdd,Nat.reduceBEq,reduceLeDiff,reduceLT,Int.reduceLT,reduceLE,reduceNeg,reduceCtorEq,encs_length,markTs_length,toNat_natCast,encs_getD _ i _ hget,Term.enc])|(first|(refine hK _ ?_;clear hK K)|(clear hK K;refine hK _ ?_;clear hK K)|(clear hK K;clear hK K;refine hK _ ?_;clear hK K))|simp only [Bool.not_true,Bool.not_false,Bool.false_eq_true,Bool.true_eq_false,reduceCtorEq,false_implies,true_implies,true_and,and_true,X.ev,lkp,cond_true,cond_false,nbeq,beq_self_eq_true,Nat.reduceBEq,awp_skip,awp_ret,awp_exit,awp_block,awp_cond,thenK_norm,thenK_ret,thenK_exit,blockK_norm,blockK_ret,blockK_exit,encs_length,markTs_length,toNat_natCast,encs_getD _ i _ hget,Term.enc]|simp only [go_sem,reduceToNat,reduceEq,reduceAdd,Nat.reduceBEq,reduceLeDiff,reduceLT,Int.reduceLT,reduceLE,reduceNeg,reduceCtorEq,encs_length,markTs_length,toNat_natCast,encs_getD _ i _ hget,Term.enc]
      refine ⟨⟨by omega,by omega⟩,?_⟩
      repeat first|refine s_seq fun K hK => ?_|(refine s_region ?_;simp only [go_sem,reduceToNat,reduceEq,reduceAdd,Nat.reduceBEq,reduceLeDiff,reduceLT,Int.reduceLT,reduceLE,reduceNeg,reduceCtorEq])|(refine s_tree ?_;simp only [go_sem,reduceToNat,reduceEq,reduceAdd,Nat.reduceBEq,reduceLeDiff,reduceLT,Int.reduceLT,reduceLE,reduceNeg,reduceCtorEq])|(refine s_draw ?_;simp only [go_sem,reduceToNat,reduceEq,reduceAdd,Nat.reduceBEq,reduceLeDiff,reduceLT,Int.reduceLT,reduceLE,reduceNeg,reduceCtorEq])|(first|(refine hK _ ?_;clear hK K)|(clear hK K;refine hK _ ?_;clear hK K)|(clear hK K;clear hK K;refine hK _ ?_;clear hK K))|simp only [Bool.not_true,Bool.not_false,Bool.false_eq_true,Bool.true_eq_false,reduceCtorEq,false_implies,true_implies,true_and,and_true,X.ev,lkp,cond_true,cond_false,nbeq,beq_self_eq_true,Nat.reduceBEq,awp_skip,awp_ret,awp_exit,awp_block,awp_cond,thenK_norm,thenK_ret,thenK_exit,blockK_norm,blockK_ret,blockK_exit]|simp only [go_sem,reduceToNat,reduceEq,reduceAdd,Nat.reduceBEq,reduceLeDiff,reduceLT,Int.reduceLT,reduceLE,reduceNeg,reduceCtorEq]
      refine s_call (ih _ (List.getElem_mem hlt) (m + 3) (by omega) (by omega)) ?_
      repeat first|refine s_seq fun K hK => ?_|(refine s_region ?_;simp only [go_sem,reduceToNat,reduceEq,reduceAdd,Nat.reduceBEq,reduceLeDiff,reduceLT,Int.reduceLT,reduceLE,reduceNeg,reduceCtorEq])|(refine s_tree ?_;simp only [go_sem,reduceToNat,reduceEq,reduceAdd,Nat.reduceBEq,reduceLeDiff,reduceLT,Int.reduceLT,reduceLE,reduceNeg,reduceCtorEq])|(refine s_draw ?_;simp only [go_sem,reduceToNat,reduceEq,reduceAdd,Nat.reduceBEq,reduceLeDiff,reduceLT,Int.reduceLT,reduceLE,reduceNeg,reduceCtorEq])|(first|(refine hK _ ?_;clear hK K)|(clear hK K;refine hK _ ?_;clear hK K)|(clear hK K;clear hK K;refine hK _ ?_;clear hK K))|simp only [Bool.not_true,Bool.not_false,Bool.false_eq_true,Bool.true_eq_false,reduceCtorEq,false_implies,true_implies,true_and,and_true,X.ev,lkp,cond_true,cond_false,nbeq,beq_self_eq_true,Nat.reduceBEq,awp_skip,awp_ret,awp_exit,awp_block,awp_cond,thenK_norm,thenK_ret,thenK_exit,blockK_norm,blockK_ret,blockK_exit]|simp only [go_sem,reduceToNat,reduceEq,reduceAdd,Nat.reduceBEq,reduceLeDiff,reduceLT,Int.reduceLT,reduceLE,reduceNeg,reduceCtorEq]
      rw [show decide (m + 3 + 3 * (nodsL ts[i].kids : Int) < 0) = false from decide_eq_false (by omega)]
      repeat first|refine s_seq fun K hK => ?_|(refine s_region ?_;simp only [go_sem,reduceToNat,reduceEq,reduceAdd,Nat.reduceBEq,reduceLeDiff,reduceLT,Int.reduceLT,reduceLE,reduceNeg,reduceCtorEq])|(refine s_tree ?_;simp only [go_sem,reduceToNat,reduceEq,reduceAdd,Nat.reduceBEq,reduceLeDiff,reduceLT,Int.reduceLT,reduceLE,reduceNeg,reduceCtorEq])|(refine s_draw ?_;simp only [go_sem,reduceToNat,reduceEq,reduceAdd,Nat.reduceBEq,reduceLeDiff,reduceLT,Int.reduceLT,reduceLE,reduceNeg,reduceCtorEq])|(first|(refine hK _ ?_;clear hK K)|(clear hK K;refine hK _ ?_;clear hK K)|(clear hK K;clear hK K;refine hK _ ?_;clear hK K))|simp only [Bool.not_true,Bool.not_false,Bool.false_eq_true,Bool.true_eq_false,reduceCtorEq,false_implies,true_implies,true_and,and_true,X.ev,lkp,cond_true,cond_false,nbeq,beq_self_eq_true,Nat.reduceBEq,awp_skip,awp_ret,awp_exit,awp_block,awp_cond,thenK_norm,thenK_ret,thenK_exit,blockK_norm,blockK_ret,blockK_exit]|simp only [go_sem,reduceToNat,reduceEq,reduceAdd,Nat.reduceBEq,reduceLeDiff,reduceLT,Int.reduceLT,reduceLE,reduceNeg,reduceCtorEq]
      rw [w64 (n:=(i : Int) + 1) (by omega) (by omega)]
      refine hK1 _ ⟨i + 1,by omega⟩ ?_ (by simp;omega)
      simp [StLe,leT,leH,A.Le,A.LeL,O.Le,lkp,freeT,freeH,A.free,A.freeL,cond_true,cond_false,nbeq,nble,nblt,decide_true,decide_false,reduceLT,Nat.reduceBEq,true_and,and_true,length_cons,length_nil,true_implies,and_self,Bool.and_true,Bool.true_and,Bool.and_self]
      omega
    · have hie : i = ts.length:=by simp at hc;omega
      subst hie
      repeat first|refine s_seq fun K hK => ?_|(refine s_region ?_;simp only [go_sem,reduceToNat,reduceEq,reduceAdd,Nat.reduceBEq,reduceLeDiff,reduceLT,Int.reduceLT,reduceLE,reduceNeg,reduceCtorEq])|(refine s_tree ?_;simp only [go_sem,reduceToNat,reduceEq,reduceAdd,Nat.reduceBEq,reduceLeDiff,reduceLT,Int.reduceLT,reduceLE,reduceNeg,reduceCtorEq])|(refine s_draw ?_;simp only [go_sem,reduceToNat,reduceEq,reduceAdd,Nat.reduceBEq,reduceLeDiff,reduceLT,Int.reduceLT,reduceLE,reduceNeg,reduceCtorEq])|(first|(refine hK _ ?_;clear hK K)|(clear hK K;refine hK _ ?_;clear hK K)|(clear hK K;clear hK K;refine hK _ ?_;clear hK K))|simp only [Bool.not_true,Bool.not_false,Bool.false_eq_true,Bool.true_eq_false,reduceCtorEq,false_implies,true_implies,true_and,and_true,X.ev,lkp,cond_true,cond_false,nbeq,beq_self_eq_true,Nat.reduceBEq,awp_skip,awp_ret,awp_exit,awp_block,awp_cond,thenK_norm,thenK_ret,thenK_exit,blockK_norm,blockK_ret,blockK_exit]|simp only [go_sem,reduceToNat,reduceEq,reduceAdd,Nat.reduceBEq,reduceLeDiff,reduceLT,Int.reduceLT,reduceLE,reduceNeg,reduceCtorEq]
      simp [go_sem,tids,A.tid,A.tid.go,cons_append,frzT,St.frz,A.sub,A.subL,O.sub,subT,subH,frzY,frzZ,Post,aret,evRs,RV.ev,tupA,A.Le,A.LeL,lkp,St.frzs,A.ids,A.idsL,cond_true,cond_false,nbeq,nble,decide_true,decide_false,reduceLeDiff,Nat.reduceBEq,reduceAdd,beq_self_eq_true,true_and,and_true,true_implies,append_nil,nil_append,getElem?_cons_zero,getElem?_cons_succ,length_cons,length_nil,drop_zero,take_succ_cons,take_zero,and_self]
theorem heldTermS_ct (ts : List Term) : ∀ k : Int,0 ≤ k → k + 3 * nodsL ts ≤ 4611686018427387904 → Ct Tryz.prog 32 [.d false (.sl (encs (markTs k ts))),.d false (.int .i64 k)] (.d true (.int .i64 (k + 3 * nodsL ts))) :=
  held_of ts fun u _ => Term.ind (p:=fun u => ∀ k : Int,0 ≤ k → k + 3 * nodsL u.kids ≤ 4611686018427387904 → Ct Tryz.prog 32 [.d false (.sl (encs (markTs k u.kids))),.d false (.int .i64 k)] (.d true (.int .i64 (k + 3 * nodsL u.kids)))) (fun t ih => held_of t.kids ih) u
end Go.Proofs.YtlddcimpdkcgeaaGreatDoor
