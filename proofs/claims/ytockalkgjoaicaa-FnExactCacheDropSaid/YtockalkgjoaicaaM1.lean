/- Marks: their text, and what marked terms are. -/
import Derived.Test.YtockalkgjoaicaaT1
import Derived.Test.YtockalkgjoaicaaFns
set_option linter.unusedVariables false
set_option linter.unusedSimpArgs false
set_option maxHeartbeats 2000000
namespace Go.Proofs.Ytockalkgjoaicaa
open Go.RowKit Sym

def mdig : Nat → Nat → ByteArray → ByteArray
  | 0,_,out => out
  | f + 1,k,out => if k = 0 then out else mdig f (k / 10) (⟨#[UInt8.ofNat (48 + k % 10)]⟩ ++ out)
def mtext (k : Int) : ByteArray:=if k ≤ 0 then ⟨#[109,48]⟩ else ⟨#[109]⟩ ++ mdig 20 k.toNat ⟨#[]⟩
attribute [irreducible] mdig mtext
theorem markText_ct (k : Int) (h0 : k ≤ 9223372036854775807) : Ct Try.prog 18 [.d false (.int .i64 k)] (.d true (.str (mtext k))):=by
  refine ok18.ct mo Try.func18 (by simp) rfl fun hok => ?_
  unfold ac18 mtext
  repeat first|refine s_seq fun K hK => ?_|(refine s_region ?_;simp only [go_sem,Int.reduceToNat,Int.reduceEq,Nat.reduceAdd,Nat.reduceBEq,Nat.reduceLeDiff,Nat.reduceLT,Int.reduceLT,Int.reduceLE,Int.reduceNeg,reduceCtorEq])|(refine s_tree ?_;simp only [go_sem,Int.reduceToNat,Int.reduceEq,Nat.reduceAdd,Nat.reduceBEq,Nat.reduceLeDiff,Nat.reduceLT,Int.reduceLT,Int.reduceLE,Int.reduceNeg,reduceCtorEq])|(refine s_draw ?_;simp only [go_sem,Int.reduceToNat,Int.reduceEq,Nat.reduceAdd,Nat.reduceBEq,Nat.reduceLeDiff,Nat.reduceLT,Int.reduceLT,Int.reduceLE,Int.reduceNeg,reduceCtorEq])|(first|(refine hK _ ?_;clear hK K)|(clear hK K;refine hK _ ?_;clear hK K)|(clear hK K;clear hK K;refine hK _ ?_;clear hK K))|simp only [Bool.not_true,Bool.not_false,Bool.false_eq_true,Bool.true_eq_false,reduceCtorEq,false_implies,true_implies,true_and,and_true,X.ev,lkp,cond_true,cond_false,nbeq,beq_self_eq_true,Nat.reduceBEq,awp_skip,awp_ret,awp_exit,awp_block,awp_cond,thenK_norm,thenK_ret,thenK_exit,blockK_norm,blockK_ret,blockK_exit]|simp only [go_sem,Int.reduceToNat,Int.reduceEq,Nat.reduceAdd,Nat.reduceBEq,Nat.reduceLeDiff,Nat.reduceLT,Int.reduceLT,Int.reduceLE,Int.reduceNeg,reduceCtorEq]
  refine ⟨fun hb => ?_,fun hb => ?_⟩
  · simp only [decide_eq_true_eq] at hb
    simp only [if_pos hb] at hK
    repeat first|refine s_seq fun K hK => ?_|(refine s_region ?_;simp only [go_sem,Int.reduceToNat,Int.reduceEq,Nat.reduceAdd,Nat.reduceBEq,Nat.reduceLeDiff,Nat.reduceLT,Int.reduceLT,Int.reduceLE,Int.reduceNeg,reduceCtorEq])|(refine s_tree ?_;simp only [go_sem,Int.reduceToNat,Int.reduceEq,Nat.reduceAdd,Nat.reduceBEq,Nat.reduceLeDiff,Nat.reduceLT,Int.reduceLT,Int.reduceLE,Int.reduceNeg,reduceCtorEq])|(refine s_draw ?_;simp only [go_sem,Int.reduceToNat,Int.reduceEq,Nat.reduceAdd,Nat.reduceBEq,Nat.reduceLeDiff,Nat.reduceLT,Int.reduceLT,Int.reduceLE,Int.reduceNeg,reduceCtorEq])|(first|(refine hK _ ?_;clear hK K)|(clear hK K;refine hK _ ?_;clear hK K)|(clear hK K;clear hK K;refine hK _ ?_;clear hK K))|simp only [Bool.not_true,Bool.not_false,Bool.false_eq_true,Bool.true_eq_false,reduceCtorEq,false_implies,true_implies,true_and,and_true,X.ev,lkp,cond_true,cond_false,nbeq,beq_self_eq_true,Nat.reduceBEq,awp_skip,awp_ret,awp_exit,awp_block,awp_cond,thenK_norm,thenK_ret,thenK_exit,blockK_norm,blockK_ret,blockK_exit]|simp only [go_sem,Int.reduceToNat,Int.reduceEq,Nat.reduceAdd,Nat.reduceBEq,Nat.reduceLeDiff,Nat.reduceLT,Int.reduceLT,Int.reduceLE,Int.reduceNeg,reduceCtorEq]
    simp [go_sem,tids,A.tid,A.tid.go,List.cons_append,frzT,St.frz,A.sub,A.subL,O.sub,subT,subH,frzY,frzZ,Post,aret,evRs,RV.ev,tupA,A.Le,A.LeL,lkp,St.frzs,St.frz,A.ids,A.idsL,cond_true,cond_false,nbeq,nble,decide_true,decide_false,Nat.reduceLeDiff,Nat.reduceBEq,Nat.reduceAdd,beq_self_eq_true,true_and,and_true,true_implies,List.append_nil,List.nil_append,List.getElem?_cons_zero,List.getElem?_cons_succ,List.length_cons,List.length_nil,List.drop_zero,List.take_succ_cons,List.take_zero,and_self]
    intro h
    omega
  · simp only [decide_eq_false_iff_not] at hb
    simp only [if_neg hb] at hK
    have hq0 : ∃ f : Nat,f = 20:=⟨20,rfl⟩
    obtain ⟨f0,hf0⟩:=hq0
    rw [← hf0] at hK
    generalize hq : mdig f0 k.toNat ⟨#[]⟩ = q at hK
    repeat first|refine s_seq fun K hK => ?_|(refine s_region ?_;simp only [go_sem,Int.reduceToNat,Int.reduceEq,Nat.reduceAdd,Nat.reduceBEq,Nat.reduceLeDiff,Nat.reduceLT,Int.reduceLT,Int.reduceLE,Int.reduceNeg,reduceCtorEq])|(refine s_tree ?_;simp only [go_sem,Int.reduceToNat,Int.reduceEq,Nat.reduceAdd,Nat.reduceBEq,Nat.reduceLeDiff,Nat.reduceLT,Int.reduceLT,Int.reduceLE,Int.reduceNeg,reduceCtorEq])|(refine s_draw ?_;simp only [go_sem,Int.reduceToNat,Int.reduceEq,Nat.reduceAdd,Nat.reduceBEq,Nat.reduceLeDiff,Nat.reduceLT,Int.reduceLT,Int.reduceLE,Int.reduceNeg,reduceCtorEq])|(first|(refine hK _ ?_;clear hK K)|(clear hK K;refine hK _ ?_;clear hK K)|(clear hK K;clear hK K;refine hK _ ?_;clear hK K))|simp only [Bool.not_true,Bool.not_false,Bool.false_eq_true,Bool.true_eq_false,reduceCtorEq,false_implies,true_implies,true_and,and_true,X.ev,lkp,cond_true,cond_false,nbeq,beq_self_eq_true,Nat.reduceBEq,awp_skip,awp_ret,awp_exit,awp_block,awp_cond,thenK_norm,thenK_ret,thenK_exit,blockK_norm,blockK_ret,blockK_exit]|simp only [go_sem,Int.reduceToNat,Int.reduceEq,Nat.reduceAdd,Nat.reduceBEq,Nat.reduceLeDiff,Nat.reduceLT,Int.reduceLT,Int.reduceLE,Int.reduceNeg,reduceCtorEq]
    refine s_loop { p : Nat × Nat × ByteArray // p.2.1 < 10 ^ p.1 ∧ p.2.1 ≤ 9223372036854775807 ∧ p.2.2.size + p.1 ≤ 20 ∧ mdig p.1 p.2.1 p.2.2 = q } (fun p => ⟨[(0,.d false (.int .i64 p.1.2.1)),(3,.d true (.str p.1.2.2))],[]⟩) (fun p => p.1.1) ⟨(f0,k.toNat,⟨#[]⟩),by simp only [hf0];omega,by simp only;omega,by simp only [hf0];exact Nat.le_refl 20,hq⟩ ?_ ?_
    · simp [StLe,leT,leH,A.Le,A.LeL,O.Le,lkp,freeT,freeH,A.free,A.freeL,cond_true,cond_false,nbeq,nble,nblt,decide_true,decide_false,Nat.reduceLT,Nat.reduceBEq,true_and,and_true,List.length_cons,List.length_nil,true_implies,and_self,Bool.and_true,Bool.true_and,Bool.and_self]
      omega
    · rintro ⟨⟨f,m,out⟩,h1,h1',h2,h3⟩ K1 hK1
      simp only at h1 h1' h2 h3
      repeat first|refine s_seq fun K hK => ?_|(refine s_region ?_;simp only [go_sem,Int.reduceToNat,Int.reduceEq,Nat.reduceAdd,Nat.reduceBEq,Nat.reduceLeDiff,Nat.reduceLT,Int.reduceLT,Int.reduceLE,Int.reduceNeg,reduceCtorEq])|(refine s_tree ?_;simp only [go_sem,Int.reduceToNat,Int.reduceEq,Nat.reduceAdd,Nat.reduceBEq,Nat.reduceLeDiff,Nat.reduceLT,Int.reduceLT,Int.reduceLE,Int.reduceNeg,reduceCtorEq])|(refine s_draw ?_;simp only [go_sem,Int.reduceToNat,Int.reduceEq,Nat.reduceAdd,Nat.reduceBEq,Nat.reduceLeDiff,Nat.reduceLT,Int.reduceLT,Int.reduceLE,Int.reduceNeg,reduceCtorEq])|(first|(refine hK _ ?_;clear hK K)|(clear hK K;refine hK _ ?_;clear hK K)|(clear hK K;clear hK K;refine hK _ ?_;clear hK K))|simp only [Bool.not_true,Bool.not_false,Bool.false_eq_true,Bool.true_eq_false,reduceCtorEq,false_implies,true_implies,true_and,and_true,X.ev,lkp,cond_true,cond_false,nbeq,beq_self_eq_true,Nat.reduceBEq,awp_skip,awp_ret,awp_exit,awp_block,awp_cond,thenK_norm,thenK_ret,thenK_exit,blockK_norm,blockK_ret,blockK_exit]|simp only [go_sem,Int.reduceToNat,Int.reduceEq,Nat.reduceAdd,Nat.reduceBEq,Nat.reduceLeDiff,Nat.reduceLT,Int.reduceLT,Int.reduceLE,Int.reduceNeg,reduceCtorEq]
      refine ⟨fun hc => ?_,fun hc => ?_⟩
      · simp only [decide_eq_true_eq] at hc
        have hf : f ≠ 0:=by rintro rfl;simp at h1;omega
        obtain ⟨f,rfl⟩ : ∃ g,f = g + 1:=⟨f - 1,by omega⟩
        first|(refine hK _ ?_;clear hK K)|(clear hK K;refine hK _ ?_;clear hK K)|(clear hK K;clear hK K;refine hK _ ?_;clear hK K)
        refine s_seq fun K hK => ?_
        refine s_region ?_
        (refine s_op fun K hK => ?_;simp only [go_sem,Int.reduceToNat,Int.reduceEq,Nat.reduceAdd,Nat.reduceBEq,Nat.reduceLeDiff,Nat.reduceLT,Int.reduceLT,Int.reduceLE,Int.reduceNeg,reduceCtorEq];first|(refine hK _ ?_;clear hK K)|skip)
        refine s_op fun K hK => ?_
        simp only [go_sem,Int.reduceToNat,Int.reduceEq,Nat.reduceAdd,Nat.reduceBEq,Nat.reduceLeDiff,Nat.reduceLT,Int.reduceLT,Int.reduceLE,Int.reduceNeg,reduceCtorEq]
        rw [show (m : Int).tmod 10 = ((m % 10 : Nat) : Int) by rw [Int.tmod_eq_emod_of_nonneg (by omega)];omega]
        have hr : m % 10 < 10:=Nat.mod_lt _ (by decide)
        have hm : mdig f (m / 10) (⟨#[UInt8.ofNat (48 + m % 10)]⟩ ++ out) = q:=by rw [← h3,mdig,if_neg (by omega)]
        generalize m % 10 = r at *
        first|(refine hK _ ?_;clear hK K)|(clear hK K;refine hK _ ?_;clear hK K)|(clear hK K;clear hK K;refine hK _ ?_;clear hK K)
        refine s_op fun K hK => ?_
        simp only [go_sem,Int.reduceToNat,Int.reduceEq,Nat.reduceAdd,Nat.reduceBEq,Nat.reduceLeDiff,Nat.reduceLT,Int.reduceLT,Int.reduceLE,Int.reduceNeg,reduceCtorEq]
        rw [show wrap64 (48 + (r : Int)) = ((48 + r : Nat) : Int) by rw [w64 (by omega) (by omega)];omega]
        have hd : 48 + r < 256:=by omega
        generalize 48 + r = d at *
        first|(refine hK _ ?_;clear hK K)|(clear hK K;refine hK _ ?_;clear hK K)|(clear hK K;clear hK K;refine hK _ ?_;clear hK K)
        refine s_op fun K hK => ?_
        simp only [go_sem,Int.reduceToNat,Int.reduceEq,Nat.reduceAdd,Nat.reduceBEq,Nat.reduceLeDiff,Nat.reduceLT,Int.reduceLT,Int.reduceLE,Int.reduceNeg,reduceCtorEq]
        rw [show IntKind.u8.wrap (d : Int) = (d : Int) by simp only [IntKind.wrap,IntKind.signed,IntKind.bits];simp;omega]
        first|(refine hK _ ?_;clear hK K)|(clear hK K;refine hK _ ?_;clear hK K)|(clear hK K;clear hK K;refine hK _ ?_;clear hK K)
        refine s_op fun K hK => ?_
        simp only [go_sem,Int.reduceToNat,Int.reduceEq,Nat.reduceAdd,Nat.reduceBEq,Nat.reduceLeDiff,Nat.reduceLT,Int.reduceLT,Int.reduceLE,Int.reduceNeg,reduceCtorEq]
        refine ⟨by simp,?_⟩
        first|(refine hK _ ?_;clear hK K)|(clear hK K;refine hK _ ?_;clear hK K)|(clear hK K;clear hK K;refine hK _ ?_;clear hK K)
        refine s_op fun K hK => ?_
        simp only [go_sem,Int.reduceToNat,Int.reduceEq,Nat.reduceAdd,Nat.reduceBEq,Nat.reduceLeDiff,Nat.reduceLT,Int.reduceLT,Int.reduceLE,Int.reduceNeg,reduceCtorEq]
        refine ⟨by simp [areBytes],?_⟩
        first|(refine hK _ ?_;clear hK K)|(clear hK K;refine hK _ ?_;clear hK K)|(clear hK K;clear hK K;refine hK _ ?_;clear hK K)
        rw [show (⟨(bytesD [[D.int .u8 (d : Int)]]).toArray⟩ : ByteArray) = ⟨#[UInt8.ofNat d]⟩ by simp [bytesD]]
        have hz : (⟨#[UInt8.ofNat d]⟩ : ByteArray).size = 1:=rfl
        generalize (⟨#[UInt8.ofNat d]⟩ : ByteArray) = sd at *
        repeat first|refine s_seq fun K hK => ?_|(refine s_region ?_;simp only [go_sem,Int.reduceToNat,Int.reduceEq,Nat.reduceAdd,Nat.reduceBEq,Nat.reduceLeDiff,Nat.reduceLT,Int.reduceLT,Int.reduceLE,Int.reduceNeg,reduceCtorEq])|(refine s_tree ?_;simp only [go_sem,Int.reduceToNat,Int.reduceEq,Nat.reduceAdd,Nat.reduceBEq,Nat.reduceLeDiff,Nat.reduceLT,Int.reduceLT,Int.reduceLE,Int.reduceNeg,reduceCtorEq])|(refine s_draw ?_;simp only [go_sem,Int.reduceToNat,Int.reduceEq,Nat.reduceAdd,Nat.reduceBEq,Nat.reduceLeDiff,Nat.reduceLT,Int.reduceLT,Int.reduceLE,Int.reduceNeg,reduceCtorEq])|(first|(refine hK _ ?_;clear hK K)|(clear hK K;refine hK _ ?_;clear hK K)|(clear hK K;clear hK K;refine hK _ ?_;clear hK K))|simp only [Bool.not_true,Bool.not_false,Bool.false_eq_true,Bool.true_eq_false,reduceCtorEq,false_implies,true_implies,true_and,and_true,X.ev,lkp,cond_true,cond_false,nbeq,beq_self_eq_true,Nat.reduceBEq,awp_skip,awp_ret,awp_exit,awp_block,awp_cond,thenK_norm,thenK_ret,thenK_exit,blockK_norm,blockK_ret,blockK_exit]|simp only [go_sem,Int.reduceToNat,Int.reduceEq,Nat.reduceAdd,Nat.reduceBEq,Nat.reduceLeDiff,Nat.reduceLT,Int.reduceLT,Int.reduceLE,Int.reduceNeg,reduceCtorEq]
        refine ⟨by omega,?_⟩
        repeat first|refine s_seq fun K hK => ?_|(refine s_region ?_;simp only [go_sem,Int.reduceToNat,Int.reduceEq,Nat.reduceAdd,Nat.reduceBEq,Nat.reduceLeDiff,Nat.reduceLT,Int.reduceLT,Int.reduceLE,Int.reduceNeg,reduceCtorEq])|(refine s_tree ?_;simp only [go_sem,Int.reduceToNat,Int.reduceEq,Nat.reduceAdd,Nat.reduceBEq,Nat.reduceLeDiff,Nat.reduceLT,Int.reduceLT,Int.reduceLE,Int.reduceNeg,reduceCtorEq])|(refine s_draw ?_;simp only [go_sem,Int.reduceToNat,Int.reduceEq,Nat.reduceAdd,Nat.reduceBEq,Nat.reduceLeDiff,Nat.reduceLT,Int.reduceLT,Int.reduceLE,Int.reduceNeg,reduceCtorEq])|(first|(refine hK _ ?_;clear hK K)|(clear hK K;refine hK _ ?_;clear hK K)|(clear hK K;clear hK K;refine hK _ ?_;clear hK K))|simp only [Bool.not_true,Bool.not_false,Bool.false_eq_true,Bool.true_eq_false,reduceCtorEq,false_implies,true_implies,true_and,and_true,X.ev,lkp,cond_true,cond_false,nbeq,beq_self_eq_true,Nat.reduceBEq,awp_skip,awp_ret,awp_exit,awp_block,awp_cond,thenK_norm,thenK_ret,thenK_exit,blockK_norm,blockK_ret,blockK_exit]|simp only [go_sem,Int.reduceToNat,Int.reduceEq,Nat.reduceAdd,Nat.reduceBEq,Nat.reduceLeDiff,Nat.reduceLT,Int.reduceLT,Int.reduceLE,Int.reduceNeg,reduceCtorEq]
        rw [show wrap64 ((m : Int).tdiv 10) = ((m / 10 : Nat) : Int) by rw [Int.tdiv_eq_ediv_of_nonneg (by omega),w64 (by omega) (by omega)];omega]
        refine ⟨by decide,?_⟩
        refine hK1 _ ⟨(f,m / 10,sd ++ out),by simp only;rw [Nat.pow_succ] at h1;omega,by simp only;omega,by simp only [ByteArray.size_append];omega,hm⟩ ?_ (by simp)
        simp [StLe,leT,leH,A.Le,A.LeL,O.Le,lkp,freeT,freeH,A.free,A.freeL,cond_true,cond_false,nbeq,nble,nblt,decide_true,decide_false,Nat.reduceLT,Nat.reduceBEq,true_and,and_true,List.length_cons,List.length_nil,true_implies,and_self,Bool.and_true,Bool.true_and,Bool.and_self]
      · simp only [decide_eq_false_iff_not] at hc
        repeat first|refine s_seq fun K hK => ?_|(refine s_region ?_;simp only [go_sem,Int.reduceToNat,Int.reduceEq,Nat.reduceAdd,Nat.reduceBEq,Nat.reduceLeDiff,Nat.reduceLT,Int.reduceLT,Int.reduceLE,Int.reduceNeg,reduceCtorEq])|(refine s_tree ?_;simp only [go_sem,Int.reduceToNat,Int.reduceEq,Nat.reduceAdd,Nat.reduceBEq,Nat.reduceLeDiff,Nat.reduceLT,Int.reduceLT,Int.reduceLE,Int.reduceNeg,reduceCtorEq])|(refine s_draw ?_;simp only [go_sem,Int.reduceToNat,Int.reduceEq,Nat.reduceAdd,Nat.reduceBEq,Nat.reduceLeDiff,Nat.reduceLT,Int.reduceLT,Int.reduceLE,Int.reduceNeg,reduceCtorEq])|(first|(refine hK _ ?_;clear hK K)|(clear hK K;refine hK _ ?_;clear hK K)|(clear hK K;clear hK K;refine hK _ ?_;clear hK K))|simp only [Bool.not_true,Bool.not_false,Bool.false_eq_true,Bool.true_eq_false,reduceCtorEq,false_implies,true_implies,true_and,and_true,X.ev,lkp,cond_true,cond_false,nbeq,beq_self_eq_true,Nat.reduceBEq,awp_skip,awp_ret,awp_exit,awp_block,awp_cond,thenK_norm,thenK_ret,thenK_exit,blockK_norm,blockK_ret,blockK_exit]|simp only [go_sem,Int.reduceToNat,Int.reduceEq,Nat.reduceAdd,Nat.reduceBEq,Nat.reduceLeDiff,Nat.reduceLT,Int.reduceLT,Int.reduceLE,Int.reduceNeg,reduceCtorEq]
        have hm : m = 0:=by omega
        subst hm
        have h4 : q = out:=by rw [← h3];cases f <;> simp [mdig]
        rw [h4] at hK
        refine ⟨by simp;omega,?_⟩
        repeat first|refine s_seq fun K hK => ?_|(refine s_region ?_;simp only [go_sem,Int.reduceToNat,Int.reduceEq,Nat.reduceAdd,Nat.reduceBEq,Nat.reduceLeDiff,Nat.reduceLT,Int.reduceLT,Int.reduceLE,Int.reduceNeg,reduceCtorEq])|(refine s_tree ?_;simp only [go_sem,Int.reduceToNat,Int.reduceEq,Nat.reduceAdd,Nat.reduceBEq,Nat.reduceLeDiff,Nat.reduceLT,Int.reduceLT,Int.reduceLE,Int.reduceNeg,reduceCtorEq])|(refine s_draw ?_;simp only [go_sem,Int.reduceToNat,Int.reduceEq,Nat.reduceAdd,Nat.reduceBEq,Nat.reduceLeDiff,Nat.reduceLT,Int.reduceLT,Int.reduceLE,Int.reduceNeg,reduceCtorEq])|(first|(refine hK _ ?_;clear hK K)|(clear hK K;refine hK _ ?_;clear hK K)|(clear hK K;clear hK K;refine hK _ ?_;clear hK K))|simp only [Bool.not_true,Bool.not_false,Bool.false_eq_true,Bool.true_eq_false,reduceCtorEq,false_implies,true_implies,true_and,and_true,X.ev,lkp,cond_true,cond_false,nbeq,beq_self_eq_true,Nat.reduceBEq,awp_skip,awp_ret,awp_exit,awp_block,awp_cond,thenK_norm,thenK_ret,thenK_exit,blockK_norm,blockK_ret,blockK_exit]|simp only [go_sem,Int.reduceToNat,Int.reduceEq,Nat.reduceAdd,Nat.reduceBEq,Nat.reduceLeDiff,Nat.reduceLT,Int.reduceLT,Int.reduceLE,Int.reduceNeg,reduceCtorEq]
        simp [go_sem,tids,A.tid,A.tid.go,List.cons_append,frzT,St.frz,A.sub,A.subL,O.sub,subT,subH,frzY,frzZ,Post,aret,evRs,RV.ev,tupA,A.Le,A.LeL,lkp,St.frzs,St.frz,A.ids,A.idsL,cond_true,cond_false,nbeq,nble,decide_true,decide_false,Nat.reduceLeDiff,Nat.reduceBEq,Nat.reduceAdd,beq_self_eq_true,true_and,and_true,true_implies,List.append_nil,List.nil_append,List.getElem?_cons_zero,List.getElem?_cons_succ,List.length_cons,List.length_nil,List.drop_zero,List.take_succ_cons,List.take_zero,and_self]

/-! ### Marked terms -/
end Go.Proofs.Ytockalkgjoaicaa
