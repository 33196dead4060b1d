/- A cursor over the bytes of a draw. -/
import Derived.Test.YtlddcimpdkcgeaaGreatDoorM3
import Derived.Test.YtlddcimpdkcgeaaGreatDoorFns
set_option linter.unusedVariables false
set_option linter.unusedSimpArgs false
set_option maxRecDepth 20000
set_option maxHeartbeats 4000000
namespace Go.Proofs.YtlddcimpdkcgeaaGreatDoor
open List (length_cons length_nil cons_append nil_append append_nil length_append)
open Nat (reduceLeDiff reduceAdd reduceLT reduceSub sub_self zero_add sub_zero)
open Int (reduceToNat reduceNeg reduceEq reduceLE)
open Go Go.RowKit Sym
attribute [local irreducible] awp aops aopsQ gop gopQ gopO gopOQ gopV gopT awpN awpT awpTs ACall after
def encB (b : List Int) : List (List D):=b.map fun n => [.int .u8 n]
theorem encB_length (b : List Int) : (encB b).length = b.length:=by simp [encB]
theorem encB_getD (b : List Int) (i : Nat) (h : i < b.length) : (encB b).getD i [] = [.int .u8 b[i]]:=by
  simp [encB,List.getD_eq_getElem?_getD,h]
@[reducible] def curO (b : List Int) (i h : Int) : O:=.box [.d false (.sl (encB b)),.d false (.int .i64 i),.d false (.int .i64 h)]
theorem i64_wrap {n : Int} (h0 : 0 ≤ n) (h1 : n ≤ 9223372036854775807) : IntKind.i64.wrap n = n:=by
  simp only [IntKind.wrap,IntKind.signed,IntKind.bits]
  simp
  omega
theorem andI_le (x : Int) (m : Nat) (hm : m ≤ 1073741823) : 0 ≤ andI x m ∧ andI x m ≤ m:=by
  unfold andI
  have h1 : (BitVec.ofInt 64 x &&& BitVec.ofInt 64 (m : Int)).toNat ≤ m:=by
    rw [BitVec.toNat_and]
    refine Nat.le_trans Nat.and_le_right ?_
    rw [BitVec.toNat_ofInt]
    omega
  rw [i64_wrap (by omega) (by omega)]
  omega
def ByteQ (b : List Int) (r : A) (hs : List O) : Prop:=∃ x i h : Int,0 ≤ x ∧ x ≤ 255 ∧ 0 ≤ i ∧ r = .d false (.int .i64 x) ∧ hs = [curO b i h]
theorem byte_ct (b : List Int) (i h : Int) (hb : b.length ≤ 1048576) (hi : 0 ≤ i) : CtH Tryz.prog 91 [.ptr 0 0] [curO b i h] (ByteQ b):=by
  refine ok91.ctH mo Tryz.func91 (by simp) fun βs hok hl => ?_
  match βs,hl with
  | [v],_ =>
  unfold ac91
  simp only [pinsL,enumT,cons_append,nil_append,length_cons,length_nil]
  obtain ⟨z1,hz1⟩ : ∃ z,wrap64 (h * 6364136223846793005) = z:=⟨_,rfl⟩
  obtain ⟨z2,hz2⟩ : ∃ z,wrap64 (z1 + 1442695040888963407) = z:=⟨_,rfl⟩
  obtain ⟨z3,hz3⟩ : ∃ z,shrI z2 33 = z:=⟨_,rfl⟩
  obtain ⟨z4,hz4⟩ : ∃ z,shrI z2 45 = z:=⟨_,rfl⟩
  obtain ⟨z5,hz5⟩ : ∃ z,xorI z3 z4 = z:=⟨_,rfl⟩
  obtain ⟨z6,hz6⟩ : ∃ z,andI z5 255 = z:=⟨_,rfl⟩
  have r6 : 0 ≤ z6 ∧ z6 ≤ 255:=by rw [← hz6];exact andI_le z5 255 (by decide)
  have hlen:=encB_length b
  by_cases hlt : i < b.length
  · have d1 : decide (i < (b.length : Int)) = true:=decide_eq_true hlt
    have hin : i.toNat < b.length:=by omega
    have hg:=encB_getD b i.toNat hin
    obtain ⟨z7,hz7⟩ : ∃ z,IntKind.i64.wrap b[i.toNat] = z:=⟨_,rfl⟩
    obtain ⟨z8,hz8⟩ : ∃ z,wrap64 (z6 + z7) = z:=⟨_,rfl⟩
    obtain ⟨z9,hz9⟩ : ∃ z,andI z8 255 = z:=⟨_,rfl⟩
    have r9 : 0 ≤ z9 ∧ z9 ≤ 255:=by rw [← hz9];exact andI_le z8 255 (by decide)
    obtain ⟨j,hj⟩ : ∃ j,i + 1 = j:=⟨_,rfl⟩
    have hj0 : 0 ≤ j:=by omega
    have hw : wrap64 (i + 1) = j:=by rw [w64 (by omega) (by omega)];exact hj
    repeat' first|assumption|first|refine s_opt1 ?_|refine s_opt0 ?_|refine s_optq1 ?_|refine s_optq0 ?_|(refine s_norm ?_;try simp only [wsN,wsI,rmv,rng,X.ev,lkp,peel,cond_true,cond_false,nbeq,Nat.reduceBEq,reduceSub,reduceAdd,zero_add,sub_zero,sub_self,length_cons,length_nil,length_append,cons_append,nil_append,append_nil])|(refine s_take fun K hK => ?_)|(refine s_cons (fun K hK => ?_) ?_)|exact s_tnil|refine s_br ?_|refine s_done ?_|refine s_seq fun K hK => ?_|refine s_region ?_|refine s_draw ?_|refine s_tree ?_|refine s_op fun K hK => ?_|refine s_opq fun K hK => ?_|refine s_ops ?_|refine s_endq ?_|simp only [go_sem,reduceToNat,reduceEq,reduceAdd,Nat.reduceBEq,reduceLeDiff,reduceLT,Int.reduceLT,reduceLE,reduceNeg,reduceCtorEq,d1,hz1,hz2,hz3,hz4,hz5,hz6,hz7,hz8,hz9,hlen,hg,hw]|(first|(refine hK _ ?_;clear hK K)|(clear hK K;refine hK _ ?_;clear hK K)|(clear hK K;clear hK K;refine hK _ ?_;clear hK K))|refine And.intro ?_ ?_
    all_goals first|(show PostH _ _ _ _ _ _;exact ⟨[],.d false (.int .i64 z9),[curO b j z2],⟨z9,j,z2,r9.1,r9.2,hj0,rfl,rfl⟩,Nat.le_refl _,by simp [StLe,leT,leH,A.Le,A.LeL,O.Le,lkp,freeT,freeH,A.free,A.freeL,cond_true,cond_false,nbeq,nble,nblt,decide_true,decide_false,reduceLT,Nat.reduceBEq,true_and,and_true,length_cons,length_nil,true_implies,and_self,Bool.and_true,Bool.true_and,Bool.and_self,St.frzs],by simp [St.frzs,evRs,RV.ev,tupA,A.Le,lkp],rfl⟩)|omega|(simp;done)|skip
  · have d1 : decide (i < (b.length : Int)) = false:=decide_eq_false hlt
    repeat' first|assumption|first|refine s_opt1 ?_|refine s_opt0 ?_|refine s_optq1 ?_|refine s_optq0 ?_|(refine s_norm ?_;try simp only [wsN,wsI,rmv,rng,X.ev,lkp,peel,cond_true,cond_false,nbeq,Nat.reduceBEq,reduceSub,reduceAdd,zero_add,sub_zero,sub_self,length_cons,length_nil,length_append,cons_append,nil_append,append_nil])|(refine s_take fun K hK => ?_)|(refine s_cons (fun K hK => ?_) ?_)|exact s_tnil|refine s_br ?_|refine s_done ?_|refine s_seq fun K hK => ?_|refine s_region ?_|refine s_draw ?_|refine s_tree ?_|refine s_op fun K hK => ?_|refine s_opq fun K hK => ?_|refine s_ops ?_|refine s_endq ?_|simp only [go_sem,reduceToNat,reduceEq,reduceAdd,Nat.reduceBEq,reduceLeDiff,reduceLT,Int.reduceLT,reduceLE,reduceNeg,reduceCtorEq,d1,hz1,hz2,hz3,hz4,hz5,hz6,hlen]|(first|(refine hK _ ?_;clear hK K)|(clear hK K;refine hK _ ?_;clear hK K)|(clear hK K;clear hK K;refine hK _ ?_;clear hK K))|refine And.intro ?_ ?_
    all_goals first|(show PostH _ _ _ _ _ _;exact ⟨[],.d false (.int .i64 z6),[curO b i z2],⟨z6,i,z2,r6.1,r6.2,hi,rfl,rfl⟩,Nat.le_refl _,by simp [StLe,leT,leH,A.Le,A.LeL,O.Le,lkp,freeT,freeH,A.free,A.freeL,cond_true,cond_false,nbeq,nble,nblt,decide_true,decide_false,reduceLT,Nat.reduceBEq,true_and,and_true,length_cons,length_nil,true_implies,and_self,Bool.and_true,Bool.true_and,Bool.and_self,St.frzs],by simp [St.frzs,evRs,RV.ev,tupA,A.Le,lkp],rfl⟩)|omega|(simp;done)|skip
def BelowQ (b : List Int) (n : Int) (r : A) (hs : List O) : Prop:=∃ x i h : Int,0 ≤ x ∧ (0 < n → x < n) ∧ (n ≤ 0 → x = 0) ∧ 0 ≤ i ∧ r = .d false (.int .i64 x) ∧ hs = [curO b i h]
theorem tmod_in {x n : Int} (hx : 0 ≤ x) (hn : 0 < n) : 0 ≤ x.tmod n ∧ x.tmod n < n:=by
  rw [Int.tmod_eq_emod_of_nonneg hx]
  exact ⟨Int.emod_nonneg _ (by omega),Int.emod_lt_of_pos _ hn⟩
theorem four_in {x y z w : Int} (hx : 0 ≤ x ∧ x ≤ 255) (hy : 0 ≤ y ∧ y ≤ 255) (hz : 0 ≤ z ∧ z ≤ 255) (hw : 0 ≤ w ∧ w ≤ 255) :
    0 ≤ wrap64 (wrap64 (wrap64 (wrap64 (x * 16777216) + wrap64 (y * 65536)) + wrap64 (z * 256)) + w):=by
  rw [w64 (n:=x * 16777216) (by omega) (by omega),w64 (n:=y * 65536) (by omega) (by omega),w64 (n:=z * 256) (by omega) (by omega),w64 (n:=x * 16777216 + y * 65536) (by omega) (by omega),w64 (n:=x * 16777216 + y * 65536 + z * 256) (by omega) (by omega),w64 (by omega) (by omega)]
  omega
theorem below_ct (b : List Int) (i h n : Int) (hb : b.length ≤ 1048576) (hi : 0 ≤ i) : CtH Tryz.prog 74 [.ptr 0 0,.d false (.int .i64 n)] [curO b i h] (BelowQ b n):=by
  refine ok74.ctH mo Tryz.func74 (by simp) fun βs hok hl => ?_
  match βs,hl with
  | [v],_ =>
  unfold ac74
  simp only [pinsL,enumT,cons_append,nil_append,length_cons,length_nil]
  by_cases h0 : n ≤ 0
  · have d0 : decide (n ≤ 0) = true:=decide_eq_true h0
    repeat' first|assumption|first|refine s_opt1 ?_|refine s_opt0 ?_|refine s_optq1 ?_|refine s_optq0 ?_|(refine s_norm ?_;try simp only [wsN,wsI,rmv,rng,X.ev,lkp,peel,cond_true,cond_false,nbeq,Nat.reduceBEq,reduceSub,reduceAdd,zero_add,sub_zero,sub_self,length_cons,length_nil,length_append,cons_append,nil_append,append_nil])|(refine s_take fun K hK => ?_)|(refine s_cons (fun K hK => ?_) ?_)|exact s_tnil|refine s_br ?_|refine s_done ?_|refine s_seq fun K hK => ?_|refine s_region ?_|refine s_draw ?_|refine s_tree ?_|refine s_op fun K hK => ?_|refine s_opq fun K hK => ?_|refine s_ops ?_|refine s_endq ?_|simp only [go_sem,reduceToNat,reduceEq,reduceAdd,Nat.reduceBEq,reduceLeDiff,reduceLT,Int.reduceLT,reduceLE,reduceNeg,reduceCtorEq,d0]|(first|(refine hK _ ?_;clear hK K)|(clear hK K;refine hK _ ?_;clear hK K)|(clear hK K;clear hK K;refine hK _ ?_;clear hK K))|refine And.intro ?_ ?_
    all_goals (show PostH _ _ _ _ _ _;exact ⟨[],.d false (.int .i64 0),[curO b i h],⟨0,i,h,Int.le_refl _,fun h => by omega,fun _ => rfl,hi,rfl,rfl⟩,Nat.le_refl _,by simp [StLe,leT,leH,A.Le,A.LeL,O.Le,lkp,freeT,freeH,A.free,A.freeL,cond_true,cond_false,nbeq,nble,nblt,decide_true,decide_false,reduceLT,Nat.reduceBEq,true_and,and_true,length_cons,length_nil,true_implies,and_self,Bool.and_true,Bool.true_and,Bool.and_self,St.frzs],by simp [St.frzs,evRs,RV.ev,tupA,A.Le,lkp],rfl⟩)
  · have d0 : decide (n ≤ 0) = false:=decide_eq_false h0
    have hn : 0 < n:=by omega
    by_cases h1 : n ≤ 256
    · have d1 : decide (n ≤ 256) = true:=decide_eq_true h1
      repeat' first|assumption|first|refine s_opt1 ?_|refine s_opt0 ?_|refine s_optq1 ?_|refine s_optq0 ?_|(refine s_norm ?_;try simp only [wsN,wsI,rmv,rng,X.ev,lkp,peel,cond_true,cond_false,nbeq,Nat.reduceBEq,reduceSub,reduceAdd,zero_add,sub_zero,sub_self,length_cons,length_nil,length_append,cons_append,nil_append,append_nil])|(refine s_take fun K hK => ?_)|(refine s_cons (fun K hK => ?_) ?_)|exact s_tnil|refine s_br ?_|refine s_done ?_|refine s_seq fun K hK => ?_|refine s_region ?_|refine s_draw ?_|refine s_tree ?_|refine s_op fun K hK => ?_|refine s_opq fun K hK => ?_|refine s_ops ?_|refine s_endq ?_|simp only [go_sem,reduceToNat,reduceEq,reduceAdd,Nat.reduceBEq,reduceLeDiff,reduceLT,Int.reduceLT,reduceLE,reduceNeg,reduceCtorEq,d0,d1]|(first|(refine hK _ ?_;clear hK K)|(clear hK K;refine hK _ ?_;clear hK K)|(clear hK K;clear hK K;refine hK _ ?_;clear hK K))|refine And.intro ?_ ?_|refine s_callh [] [0] (byte_ct b _ _ hb (by assumption)) rfl rfl trivial (by decide) rfl ⟨rfl,trivial⟩ ?_
      rintro r hs ⟨x,i',h',g1,g2,g3,rfl,rfl⟩
      have hm:=tmod_in g1 hn
      obtain ⟨z,hz⟩ : ∃ z,x.tmod n = z:=⟨_,rfl⟩
      rw [hz] at hm
      repeat' first|assumption|first|refine s_opt1 ?_|refine s_opt0 ?_|refine s_optq1 ?_|refine s_optq0 ?_|(refine s_norm ?_;try simp only [wsN,wsI,rmv,rng,X.ev,lkp,peel,cond_true,cond_false,nbeq,Nat.reduceBEq,reduceSub,reduceAdd,zero_add,sub_zero,sub_self,length_cons,length_nil,length_append,cons_append,nil_append,append_nil])|(refine s_take fun K hK => ?_)|(refine s_cons (fun K hK => ?_) ?_)|exact s_tnil|refine s_br ?_|refine s_done ?_|refine s_seq fun K hK => ?_|refine s_region ?_|refine s_draw ?_|refine s_tree ?_|refine s_op fun K hK => ?_|refine s_opq fun K hK => ?_|refine s_ops ?_|refine s_endq ?_|simp only [go_sem,reduceToNat,reduceEq,reduceAdd,Nat.reduceBEq,reduceLeDiff,reduceLT,Int.reduceLT,reduceLE,reduceNeg,reduceCtorEq,d0,d1,hz]|(first|(refine hK _ ?_;clear hK K)|(clear hK K;refine hK _ ?_;clear hK K)|(clear hK K;clear hK K;refine hK _ ?_;clear hK K))|refine And.intro ?_ ?_
      all_goals first|(show PostH _ _ _ _ _ _;exact ⟨[],.d false (.int .i64 z),[curO b i' h'],⟨z,i',h',hm.1,fun _ => hm.2,fun h => by omega,g3,rfl,rfl⟩,Nat.le_refl _,by simp [StLe,leT,leH,A.Le,A.LeL,O.Le,lkp,freeT,freeH,A.free,A.freeL,cond_true,cond_false,nbeq,nble,nblt,decide_true,decide_false,reduceLT,Nat.reduceBEq,true_and,and_true,length_cons,length_nil,true_implies,and_self,Bool.and_true,Bool.true_and,Bool.and_self,St.frzs],by simp [St.frzs,evRs,RV.ev,tupA,A.Le,lkp],rfl⟩)|(simp;done)
    · have d1 : decide (n ≤ 256) = false:=decide_eq_false h1
      repeat' first|assumption|first|refine s_opt1 ?_|refine s_opt0 ?_|refine s_optq1 ?_|refine s_optq0 ?_|(refine s_norm ?_;try simp only [wsN,wsI,rmv,rng,X.ev,lkp,peel,cond_true,cond_false,nbeq,Nat.reduceBEq,reduceSub,reduceAdd,zero_add,sub_zero,sub_self,length_cons,length_nil,length_append,cons_append,nil_append,append_nil])|(refine s_take fun K hK => ?_)|(refine s_cons (fun K hK => ?_) ?_)|exact s_tnil|refine s_br ?_|refine s_done ?_|refine s_seq fun K hK => ?_|refine s_region ?_|refine s_draw ?_|refine s_tree ?_|refine s_op fun K hK => ?_|refine s_opq fun K hK => ?_|refine s_ops ?_|refine s_endq ?_|simp only [go_sem,reduceToNat,reduceEq,reduceAdd,Nat.reduceBEq,reduceLeDiff,reduceLT,Int.reduceLT,reduceLE,reduceNeg,reduceCtorEq,d0,d1]|(first|(refine hK _ ?_;clear hK K)|(clear hK K;refine hK _ ?_;clear hK K)|(clear hK K;clear hK K;refine hK _ ?_;clear hK K))|refine And.intro ?_ ?_|refine s_callh [] [0] (byte_ct b _ _ hb (by assumption)) rfl rfl trivial (by decide) rfl ⟨rfl,trivial⟩ ?_
      rintro r hs ⟨x,i1,h1',x1,x2,gi1,rfl,rfl⟩
      repeat' first|assumption|first|refine s_opt1 ?_|refine s_opt0 ?_|refine s_optq1 ?_|refine s_optq0 ?_|(refine s_norm ?_;try simp only [wsN,wsI,rmv,rng,X.ev,lkp,peel,cond_true,cond_false,nbeq,Nat.reduceBEq,reduceSub,reduceAdd,zero_add,sub_zero,sub_self,length_cons,length_nil,length_append,cons_append,nil_append,append_nil])|(refine s_take fun K hK => ?_)|(refine s_cons (fun K hK => ?_) ?_)|exact s_tnil|refine s_br ?_|refine s_done ?_|refine s_seq fun K hK => ?_|refine s_region ?_|refine s_draw ?_|refine s_tree ?_|refine s_op fun K hK => ?_|refine s_opq fun K hK => ?_|refine s_ops ?_|refine s_endq ?_|simp only [go_sem,reduceToNat,reduceEq,reduceAdd,Nat.reduceBEq,reduceLeDiff,reduceLT,Int.reduceLT,reduceLE,reduceNeg,reduceCtorEq,d0,d1]|(first|(refine hK _ ?_;clear hK K)|(clear hK K;refine hK _ ?_;clear hK K)|(clear hK K;clear hK K;refine hK _ ?_;clear hK K))|refine And.intro ?_ ?_|refine s_callh [] [0] (byte_ct b _ _ hb (by assumption)) rfl rfl trivial (by decide) rfl ⟨rfl,trivial⟩ ?_
      rintro r hs ⟨y,i2,h2',y1,y2,gi2,rfl,rfl⟩
      repeat' first|assumption|first|refine s_opt1 ?_|refine s_opt0 ?_|refine s_optq1 ?_|refine s_optq0 ?_|(refine s_norm ?_;try simp only [wsN,wsI,rmv,rng,X.ev,lkp,peel,cond_true,cond_false,nbeq,Nat.reduceBEq,reduceSub,reduceAdd,zero_add,sub_zero,sub_self,length_cons,length_nil,length_append,cons_append,nil_append,append_nil])|(refine s_take fun K hK => ?_)|(refine s_cons (fun K hK => ?_) ?_)|exact s_tnil|refine s_br ?_|refine s_done ?_|refine s_seq fun K hK => ?_|refine s_region ?_|refine s_draw ?_|refine s_tree ?_|refine s_op fun K hK => ?_|refine s_opq fun K hK => ?_|refine s_ops ?_|refine s_endq ?_|simp only [go_sem,reduceToNat,reduceEq,reduceAdd,Nat.reduceBEq,reduceLeDiff,reduceLT,Int.reduceLT,reduceLE,reduceNeg,reduceCtorEq,d0,d1]|(first|(refine hK _ ?_;clear hK K)|(clear hK K;refine hK _ ?_;clear hK K)|(clear hK K;clear hK K;refine hK _ ?_;clear hK K))|refine And.intro ?_ ?_|refine s_callh [] [0] (byte_ct b _ _ hb (by assumption)) rfl rfl trivial (by decide) rfl ⟨rfl,trivial⟩ ?_
      rintro r hs ⟨z,i3,h3',z1,z2,gi3,rfl,rfl⟩
      repeat' first|assumption|first|refine s_opt1 ?_|refine s_opt0 ?_|refine s_optq1 ?_|refine s_optq0 ?_|(refine s_norm ?_;try simp only [wsN,wsI,rmv,rng,X.ev,lkp,peel,cond_true,cond_false,nbeq,Nat.reduceBEq,reduceSub,reduceAdd,zero_add,sub_zero,sub_self,length_cons,length_nil,length_append,cons_append,nil_append,append_nil])|(refine s_take fun K hK => ?_)|(refine s_cons (fun K hK => ?_) ?_)|exact s_tnil|refine s_br ?_|refine s_done ?_|refine s_seq fun K hK => ?_|refine s_region ?_|refine s_draw ?_|refine s_tree ?_|refine s_op fun K hK => ?_|refine s_opq fun K hK => ?_|refine s_ops ?_|refine s_endq ?_|simp only [go_sem,reduceToNat,reduceEq,reduceAdd,Nat.reduceBEq,reduceLeDiff,reduceLT,Int.reduceLT,reduceLE,reduceNeg,reduceCtorEq,d0,d1]|(first|(refine hK _ ?_;clear hK K)|(clear hK K;refine hK _ ?_;clear hK K)|(clear hK K;clear hK K;refine hK _ ?_;clear hK K))|refine And.intro ?_ ?_|refine s_callh [] [0] (byte_ct b _ _ hb (by assumption)) rfl rfl trivial (by decide) rfl ⟨rfl,trivial⟩ ?_
      rintro r hs ⟨w,i4,h4',w1,w2,gi4,rfl,rfl⟩
      have h4:=four_in ⟨x1,x2⟩ ⟨y1,y2⟩ ⟨z1,z2⟩ ⟨w1,w2⟩
      obtain ⟨t1,ht1⟩ : ∃ t,wrap64 (x * 16777216) = t:=⟨_,rfl⟩
      obtain ⟨t2,ht2⟩ : ∃ t,wrap64 (y * 65536) = t:=⟨_,rfl⟩
      obtain ⟨t3,ht3⟩ : ∃ t,wrap64 (z * 256) = t:=⟨_,rfl⟩
      obtain ⟨t4,ht4⟩ : ∃ t,wrap64 (t1 + t2) = t:=⟨_,rfl⟩
      obtain ⟨t5,ht5⟩ : ∃ t,wrap64 (t4 + t3) = t:=⟨_,rfl⟩
      obtain ⟨t6,ht6⟩ : ∃ t,wrap64 (t5 + w) = t:=⟨_,rfl⟩
      rw [ht1,ht2,ht3,ht4,ht5,ht6] at h4
      have hm:=tmod_in h4 hn
      obtain ⟨u,hu⟩ : ∃ u,t6.tmod n = u:=⟨_,rfl⟩
      rw [hu] at hm
      repeat' first|assumption|first|refine s_opt1 ?_|refine s_opt0 ?_|refine s_optq1 ?_|refine s_optq0 ?_|(refine s_norm ?_;try simp only [wsN,wsI,rmv,rng,X.ev,lkp,peel,cond_true,cond_false,nbeq,Nat.reduceBEq,reduceSub,reduceAdd,zero_add,sub_zero,sub_self,length_cons,length_nil,length_append,cons_append,nil_append,append_nil])|(refine s_take fun K hK => ?_)|(refine s_cons (fun K hK => ?_) ?_)|exact s_tnil|refine s_br ?_|refine s_done ?_|refine s_seq fun K hK => ?_|refine s_region ?_|refine s_draw ?_|refine s_tree ?_|refine s_op fun K hK => ?_|refine s_opq fun K hK => ?_|refine s_ops ?_|refine s_endq ?_|simp only [go_sem,reduceToNat,reduceEq,reduceAdd,Nat.reduceBEq,reduceLeDiff,reduceLT,Int.reduceLT,reduceLE,reduceNeg,reduceCtorEq,d0,d1,ht1,ht2,ht3,ht4,ht5,ht6,hu]|(first|(refine hK _ ?_;clear hK K)|(clear hK K;refine hK _ ?_;clear hK K)|(clear hK K;clear hK K;refine hK _ ?_;clear hK K))|refine And.intro ?_ ?_
      all_goals first|(show PostH _ _ _ _ _ _;exact ⟨[],.d false (.int .i64 u),[curO b i4 h4'],⟨u,i4,h4',hm.1,fun _ => hm.2,fun h => by omega,gi4,rfl,rfl⟩,Nat.le_refl _,by simp [StLe,leT,leH,A.Le,A.LeL,O.Le,lkp,freeT,freeH,A.free,A.freeL,cond_true,cond_false,nbeq,nble,nblt,decide_true,decide_false,reduceLT,Nat.reduceBEq,true_and,and_true,length_cons,length_nil,true_implies,and_self,Bool.and_true,Bool.true_and,Bool.and_self,St.frzs],by simp [St.frzs,evRs,RV.ev,tupA,A.Le,lkp],rfl⟩)|(simp;done)
def OnceQ (b : List Int) (r : A) (hs : List O) : Prop:=∃ (x : Bool) (i h : Int),0 ≤ i ∧ r = .d false (.bool x) ∧ hs = [curO b i h]
theorem once_ct (b : List Int) (i h n : Int) (hb : b.length ≤ 1048576) (hi : 0 ≤ i) : CtH Tryz.prog 52 [.ptr 0 0,.d false (.int .i64 n)] [curO b i h] (OnceQ b):=by
  refine ok52.ctH mo Tryz.func52 (by simp) fun βs hok hl => ?_
  match βs,hl with
  | [v],_ =>
  unfold ac52
  simp only [pinsL,enumT,cons_append,nil_append,length_cons,length_nil]
  repeat' first|assumption|first|refine s_opt1 ?_|refine s_opt0 ?_|refine s_optq1 ?_|refine s_optq0 ?_|(refine s_norm ?_;try simp only [wsN,wsI,rmv,rng,X.ev,lkp,peel,cond_true,cond_false,nbeq,Nat.reduceBEq,reduceSub,reduceAdd,zero_add,sub_zero,sub_self,length_cons,length_nil,length_append,cons_append,nil_append,append_nil])|(refine s_take fun K hK => ?_)|(refine s_cons (fun K hK => ?_) ?_)|exact s_tnil|refine s_br ?_|refine s_done ?_|refine s_seq fun K hK => ?_|refine s_region ?_|refine s_draw ?_|refine s_tree ?_|refine s_op fun K hK => ?_|refine s_opq fun K hK => ?_|refine s_ops ?_|refine s_endq ?_|simp only [go_sem,reduceToNat,reduceEq,reduceAdd,Nat.reduceBEq,reduceLeDiff,reduceLT,Int.reduceLT,reduceLE,reduceNeg,reduceCtorEq]|(first|(refine hK _ ?_;clear hK K)|(clear hK K;refine hK _ ?_;clear hK K)|(clear hK K;clear hK K;refine hK _ ?_;clear hK K))|refine And.intro ?_ ?_|refine s_callh [] [0] (below_ct b _ _ _ hb (by assumption)) rfl rfl trivial (by decide) rfl ⟨rfl,trivial⟩ ?_
  rintro r hs ⟨x,i',h',g1,g2,g3,g4,rfl,rfl⟩
  obtain ⟨z,hz⟩ : ∃ z,decide (x = 0) = z:=⟨_,rfl⟩
  repeat' first|assumption|first|refine s_opt1 ?_|refine s_opt0 ?_|refine s_optq1 ?_|refine s_optq0 ?_|(refine s_norm ?_;try simp only [wsN,wsI,rmv,rng,X.ev,lkp,peel,cond_true,cond_false,nbeq,Nat.reduceBEq,reduceSub,reduceAdd,zero_add,sub_zero,sub_self,length_cons,length_nil,length_append,cons_append,nil_append,append_nil])|(refine s_take fun K hK => ?_)|(refine s_cons (fun K hK => ?_) ?_)|exact s_tnil|refine s_br ?_|refine s_done ?_|refine s_seq fun K hK => ?_|refine s_region ?_|refine s_draw ?_|refine s_tree ?_|refine s_op fun K hK => ?_|refine s_opq fun K hK => ?_|refine s_ops ?_|refine s_endq ?_|simp only [go_sem,reduceToNat,reduceEq,reduceAdd,Nat.reduceBEq,reduceLeDiff,reduceLT,Int.reduceLT,reduceLE,reduceNeg,reduceCtorEq,hz]|(first|(refine hK _ ?_;clear hK K)|(clear hK K;refine hK _ ?_;clear hK K)|(clear hK K;clear hK K;refine hK _ ?_;clear hK K))|refine And.intro ?_ ?_
  all_goals first|(show PostH _ _ _ _ _ _;exact ⟨[],.d false (.bool z),[curO b i' h'],⟨z,i',h',g4,rfl,rfl⟩,Nat.le_refl _,by simp [StLe,leT,leH,A.Le,A.LeL,O.Le,lkp,freeT,freeH,A.free,A.freeL,cond_true,cond_false,nbeq,nble,nblt,decide_true,decide_false,reduceLT,Nat.reduceBEq,true_and,and_true,length_cons,length_nil,true_implies,and_self,Bool.and_true,Bool.true_and,Bool.and_self,St.frzs],by simp [St.frzs,evRs,RV.ev,tupA,A.Le,lkp],rfl⟩)|(simp;done)
def PickIQ (b : List Int) (xs : List Int) (r : A) (hs : List O) : Prop:=∃ x i h : Int,x ∈ xs ∧ 0 ≤ i ∧ r = .d false (.int .i64 x) ∧ hs = [curO b i h]
def encI (xs : List Int) : List (List D):=xs.map fun n => [.int .i64 n]
theorem encI_length (b : List Int) : (encI b).length = b.length:=by simp [encI]
theorem encI_getD (b : List Int) (i : Nat) (h : i < b.length) : (encI b).getD i [] = [.int .i64 b[i]]:=by
  simp [encI,List.getD_eq_getElem?_getD,h]
theorem pickI_ct (b xs : List Int) (i h : Int) (hb : b.length ≤ 1048576) (hi : 0 ≤ i) (hx : 0 < xs.length) : CtH Tryz.prog 53 [.ptr 0 0,.d false (.sl (encI xs))] [curO b i h] (PickIQ b xs):=by
  refine ok53.ctH mo Tryz.func53 (by simp) fun βs hok hl => ?_
  match βs,hl with
  | [v],_ =>
  unfold ac53
  simp only [pinsL,enumT,cons_append,nil_append,length_cons,length_nil]
  have hlen:=encI_length xs
  repeat' first|assumption|first|refine s_opt1 ?_|refine s_opt0 ?_|refine s_optq1 ?_|refine s_optq0 ?_|(refine s_norm ?_;try simp only [wsN,wsI,rmv,rng,X.ev,lkp,peel,cond_true,cond_false,nbeq,Nat.reduceBEq,reduceSub,reduceAdd,zero_add,sub_zero,sub_self,length_cons,length_nil,length_append,cons_append,nil_append,append_nil])|(refine s_take fun K hK => ?_)|(refine s_cons (fun K hK => ?_) ?_)|exact s_tnil|refine s_br ?_|refine s_done ?_|refine s_seq fun K hK => ?_|refine s_region ?_|refine s_draw ?_|refine s_tree ?_|refine s_op fun K hK => ?_|refine s_opq fun K hK => ?_|refine s_ops ?_|refine s_endq ?_|simp only [go_sem,reduceToNat,reduceEq,reduceAdd,Nat.reduceBEq,reduceLeDiff,reduceLT,Int.reduceLT,reduceLE,reduceNeg,reduceCtorEq,hlen]|(first|(refine hK _ ?_;clear hK K)|(clear hK K;refine hK _ ?_;clear hK K)|(clear hK K;clear hK K;refine hK _ ?_;clear hK K))|refine And.intro ?_ ?_|refine s_callh [] [0] (below_ct b _ _ _ hb (by assumption)) rfl rfl trivial (by decide) rfl ⟨rfl,trivial⟩ ?_
  rintro r hs ⟨x,i',h',g1,g2,g3,g4,rfl,rfl⟩
  have hlt : x.toNat < xs.length:=by have:=g2 (by omega);omega
  have hg:=encI_getD xs x.toNat hlt
  have hm:=List.getElem_mem hlt
  generalize xs[x.toNat] = y at *
  have g2':=g2 (by omega)
  repeat' first|assumption|first|refine s_opt1 ?_|refine s_opt0 ?_|refine s_optq1 ?_|refine s_optq0 ?_|(refine s_norm ?_;try simp only [wsN,wsI,rmv,rng,X.ev,lkp,peel,cond_true,cond_false,nbeq,Nat.reduceBEq,reduceSub,reduceAdd,zero_add,sub_zero,sub_self,length_cons,length_nil,length_append,cons_append,nil_append,append_nil])|(refine s_take fun K hK => ?_)|(refine s_cons (fun K hK => ?_) ?_)|exact s_tnil|refine s_br ?_|refine s_done ?_|refine s_seq fun K hK => ?_|refine s_region ?_|refine s_draw ?_|refine s_tree ?_|refine s_op fun K hK => ?_|refine s_opq fun K hK => ?_|refine s_ops ?_|refine s_endq ?_|simp only [go_sem,reduceToNat,reduceEq,reduceAdd,Nat.reduceBEq,reduceLeDiff,reduceLT,Int.reduceLT,reduceLE,reduceNeg,reduceCtorEq,hlen,hg]|(first|(refine hK _ ?_;clear hK K)|(clear hK K;refine hK _ ?_;clear hK K)|(clear hK K;clear hK K;refine hK _ ?_;clear hK K))|refine And.intro ?_ ?_
  all_goals first|(show PostH _ _ _ _ _ _;exact ⟨[],.d false (.int .i64 y),[curO b i' h'],⟨y,i',h',hm,g4,rfl,rfl⟩,Nat.le_refl _,by simp [StLe,leT,leH,A.Le,A.LeL,O.Le,lkp,freeT,freeH,A.free,A.freeL,cond_true,cond_false,nbeq,nble,nblt,decide_true,decide_false,reduceLT,Nat.reduceBEq,true_and,and_true,length_cons,length_nil,true_implies,and_self,Bool.and_true,Bool.true_and,Bool.and_self,St.frzs],by simp [St.frzs,evRs,RV.ev,tupA,A.Le,lkp],rfl⟩)|(simp;done)|(rw [hg];rfl)
def encSt (xs : List ByteArray) : List (List D):=xs.map fun s => [.str s]
theorem encSt_length (b : List ByteArray) : (encSt b).length = b.length:=by simp [encSt]
theorem encSt_getD (b : List ByteArray) (i : Nat) (h : i < b.length) : (encSt b).getD i [] = [.str b[i]]:=by
  simp [encSt,List.getD_eq_getElem?_getD,h]
def PickQ (b : List Int) (xs : List ByteArray) (r : A) (hs : List O) : Prop:=∃ (x : ByteArray) (i h : Int),x ∈ xs ∧ 0 ≤ i ∧ r = .d false (.str x) ∧ hs = [curO b i h]
theorem pick_ct (b : List Int) (xs : List ByteArray) (i h : Int) (hb : b.length ≤ 1048576) (hi : 0 ≤ i) (hx : 0 < xs.length) : CtH Tryz.prog 75 [.ptr 0 0,.d false (.sl (encSt xs))] [curO b i h] (PickQ b xs):=by
  refine ok75.ctH mo Tryz.func75 (by simp) fun βs hok hl => ?_
  match βs,hl with
  | [v],_ =>
  unfold ac75
  simp only [pinsL,enumT,cons_append,nil_append,length_cons,length_nil]
  have hlen:=encSt_length xs
  repeat' first|assumption|first|refine s_opt1 ?_|refine s_opt0 ?_|refine s_optq1 ?_|refine s_optq0 ?_|(refine s_norm ?_;try simp only [wsN,wsI,rmv,rng,X.ev,lkp,peel,cond_true,cond_false,nbeq,Nat.reduceBEq,reduceSub,reduceAdd,zero_add,sub_zero,sub_self,length_cons,length_nil,length_append,cons_append,nil_append,append_nil])|(refine s_take fun K hK => ?_)|(refine s_cons (fun K hK => ?_) ?_)|exact s_tnil|refine s_br ?_|refine s_done ?_|refine s_seq fun K hK => ?_|refine s_region ?_|refine s_draw ?_|refine s_tree ?_|refine s_op fun K hK => ?_|refine s_opq fun K hK => ?_|refine s_ops ?_|refine s_endq ?_|simp only [go_sem,reduceToNat,reduceEq,reduceAdd,Nat.reduceBEq,reduceLeDiff,reduceLT,Int.reduceLT,reduceLE,reduceNeg,reduceCtorEq,hlen]|(first|(refine hK _ ?_;clear hK K)|(clear hK K;refine hK _ ?_;clear hK K)|(clear hK K;clear hK K;refine hK _ ?_;clear hK K))|refine And.intro ?_ ?_|refine s_callh [] [0] (below_ct b _ _ _ hb (by assumption)) rfl rfl trivial (by decide) rfl ⟨rfl,trivial⟩ ?_
  rintro r hs ⟨x,i',h',g1,g2,g3,g4,rfl,rfl⟩
  have hlt : x.toNat < xs.length:=by have:=g2 (by omega);omega
  have hg:=encSt_getD xs x.toNat hlt
  have hm:=List.getElem_mem hlt
  generalize xs[x.toNat] = y at *
  have g2':=g2 (by omega)
  repeat' first|assumption|first|refine s_opt1 ?_|refine s_opt0 ?_|refine s_optq1 ?_|refine s_optq0 ?_|(refine s_norm ?_;try simp only [wsN,wsI,rmv,rng,X.ev,lkp,peel,cond_true,cond_false,nbeq,Nat.reduceBEq,reduceSub,reduceAdd,zero_add,sub_zero,sub_self,length_cons,length_nil,length_append,cons_append,nil_append,append_nil])|(refine s_take fun K hK => ?_)|(refine s_cons (fun K hK => ?_) ?_)|exact s_tnil|refine s_br ?_|refine s_done ?_|refine s_seq fun K hK => ?_|refine s_region ?_|refine s_draw ?_|refine s_tree ?_|refine s_op fun K hK => ?_|refine s_opq fun K hK => ?_|refine s_ops ?_|refine s_endq ?_|simp only [go_sem,reduceToNat,reduceEq,reduceAdd,Nat.reduceBEq,reduceLeDiff,reduceLT,Int.reduceLT,reduceLE,reduceNeg,reduceCtorEq,hlen,hg]|(first|(refine hK _ ?_;clear hK K)|(clear hK K;refine hK _ ?_;clear hK K)|(clear hK K;clear hK K;refine hK _ ?_;clear hK K))|refine And.intro ?_ ?_
  all_goals first|(show PostH _ _ _ _ _ _;exact ⟨[],.d false (.str y),[curO b i' h'],⟨y,i',h',hm,g4,rfl,rfl⟩,Nat.le_refl _,by simp [StLe,leT,leH,A.Le,A.LeL,O.Le,lkp,freeT,freeH,A.free,A.freeL,cond_true,cond_false,nbeq,nble,nblt,decide_true,decide_false,reduceLT,Nat.reduceBEq,true_and,and_true,length_cons,length_nil,true_implies,and_self,Bool.and_true,Bool.true_and,Bool.and_self,St.frzs],by simp [St.frzs,evRs,RV.ev,tupA,A.Le,lkp],rfl⟩)|(simp;done)|(rw [hg];rfl)
def NewQ (b : List Int) (r : A) (hs : List O) : Prop:=∃ h : Int,r = .ptr 0 0 ∧ hs = [curO b 0 h]
theorem new_ct (b : List Int) (hb : b.length ≤ 1048576) : CtH Tryz.prog 45 [.d false (.sl (encB b))] [] (NewQ b):=by
  refine ok45.ctH mo Tryz.func45 (by simp) fun βs hok hl => ?_
  match βs,hl with
  | [],_ =>
  unfold ac45
  simp only [pinsL,enumT,cons_append,nil_append,length_cons,length_nil]
  have hlen:=encB_length b
  obtain ⟨z0,hz0⟩ : ∃ z,wrap64 (22143 + (b.length : Int)) = z:=⟨_,rfl⟩
  repeat' first|assumption|first|refine s_opt1 ?_|refine s_opt0 ?_|refine s_optq1 ?_|refine s_optq0 ?_|(refine s_norm ?_;try simp only [wsN,wsI,rmv,rng,X.ev,lkp,peel,cond_true,cond_false,nbeq,Nat.reduceBEq,reduceSub,reduceAdd,zero_add,sub_zero,sub_self,length_cons,length_nil,length_append,cons_append,nil_append,append_nil])|(refine s_take fun K hK => ?_)|(refine s_cons (fun K hK => ?_) ?_)|exact s_tnil|refine s_br ?_|refine s_done ?_|refine s_seq fun K hK => ?_|refine s_region ?_|refine s_draw ?_|refine s_tree ?_|refine s_op fun K hK => ?_|refine s_opq fun K hK => ?_|refine s_ops ?_|refine s_endq ?_|simp only [go_sem,reduceToNat,reduceEq,reduceAdd,Nat.reduceBEq,reduceLeDiff,reduceLT,Int.reduceLT,reduceLE,reduceNeg,reduceCtorEq,hlen,hz0]|(first|(refine hK _ ?_;clear hK K)|(clear hK K;refine hK _ ?_;clear hK K)|(clear hK K;clear hK K;refine hK _ ?_;clear hK K))|refine And.intro ?_ ?_
  refine s_loop { p : Nat × Int // p.1 ≤ b.length } (fun p => ⟨[(0,.d false (.sl (encB b))),(3,.d true (.int .i64 p.1.2)),(4,.d true (.int .i64 (p.1.1 : Int)))],[]⟩) (fun p => b.length - p.1.1) ⟨(0,z0),Nat.zero_le _⟩ ?_ ?_
  · simp [StLe,leT,leH,A.Le,A.LeL,O.Le,lkp,freeT,freeH,A.free,A.freeL,cond_true,cond_false,nbeq,nble,nblt,decide_true,decide_false,reduceLT,Nat.reduceBEq,true_and,and_true,length_cons,length_nil,true_implies,and_self,Bool.and_true,Bool.true_and,Bool.and_self]
  · rintro ⟨⟨i,hh⟩,hi⟩ K1 hK1
    simp only
    simp only at hi
    have hw : wrap64 ((i : Int) + 1) = ((i + 1 : Nat) : Int):=by rw [w64 (by omega) (by omega)];omega
    have fin : ∀ σ,StLe σ ⟨[(0,.d false (.sl (encB b))),(3,.d true (.int .i64 hh)),(4,.d true (.int .i64 (i : Int)))],[]⟩ → True:=fun _ _ => trivial
    by_cases hlt : i < b.length
    · have d1 : decide ((i : Int) < b.length) = true:=decide_eq_true (by omega)
      by_cases h4 : (i : Int) < 4000
      · have d2 : decide ((i : Int) < 4000) = true:=decide_eq_true h4
        have hg:=encB_getD b i hlt
        obtain ⟨z1,hz1⟩ : ∃ z,wrap64 (hh * 131) = z:=⟨_,rfl⟩
        obtain ⟨z2,hz2⟩ : ∃ z,IntKind.i64.wrap b[i] = z:=⟨_,rfl⟩
        obtain ⟨z3,hz3⟩ : ∃ z,wrap64 (z1 + z2) = z:=⟨_,rfl⟩
        obtain ⟨z4,hz4⟩ : ∃ z,wrap64 (z3 + 7) = z:=⟨_,rfl⟩
        obtain ⟨z5,hz5⟩ : ∃ z,andI z4 1073741823 = z:=⟨_,rfl⟩
        repeat' first|assumption|first|refine s_opt1 ?_|refine s_opt0 ?_|refine s_optq1 ?_|refine s_optq0 ?_|(refine s_norm ?_;try simp only [wsN,wsI,rmv,rng,X.ev,lkp,peel,cond_true,cond_false,nbeq,Nat.reduceBEq,reduceSub,reduceAdd,zero_add,sub_zero,sub_self,length_cons,length_nil,length_append,cons_append,nil_append,append_nil])|(refine s_take fun K hK => ?_)|(refine s_cons (fun K hK => ?_) ?_)|exact s_tnil|refine s_br ?_|refine s_done ?_|refine s_seq fun K hK => ?_|refine s_region ?_|refine s_draw ?_|refine s_tree ?_|refine s_op fun K hK => ?_|refine s_opq fun K hK => ?_|refine s_ops ?_|refine s_endq ?_|simp only [go_sem,reduceToNat,reduceEq,reduceAdd,Nat.reduceBEq,reduceLeDiff,reduceLT,Int.reduceLT,reduceLE,reduceNeg,reduceCtorEq,d1,d2,hlen,hw,Int.toNat_natCast,hg,hz1,hz2,hz3,hz4,hz5]|(first|(refine hK _ ?_;clear hK K)|(clear hK K;refine hK _ ?_;clear hK K)|(clear hK K;clear hK K;refine hK _ ?_;clear hK K))|refine And.intro ?_ ?_
        all_goals first|(refine hK1 _ ⟨(i + 1,z5),hlt⟩ ?_ (by simp;omega);simp [StLe,leT,leH,A.Le,A.LeL,O.Le,lkp,freeT,freeH,A.free,A.freeL,cond_true,cond_false,nbeq,nble,nblt,decide_true,decide_false,reduceLT,Nat.reduceBEq,true_and,and_true,length_cons,length_nil,true_implies,and_self,Bool.and_true,Bool.true_and,Bool.and_self];done)|omega|(simp;done)|skip
      · have d2 : decide ((i : Int) < 4000) = false:=decide_eq_false h4
        obtain ⟨z1,hz1⟩ : ∃ z,z = hh:=⟨_,rfl⟩
        clear hK1
        repeat' first|assumption|first|refine s_opt1 ?_|refine s_opt0 ?_|refine s_optq1 ?_|refine s_optq0 ?_|(refine s_norm ?_;try simp only [wsN,wsI,rmv,rng,X.ev,lkp,peel,cond_true,cond_false,nbeq,Nat.reduceBEq,reduceSub,reduceAdd,zero_add,sub_zero,sub_self,length_cons,length_nil,length_append,cons_append,nil_append,append_nil])|(refine s_take fun K hK => ?_)|(refine s_cons (fun K hK => ?_) ?_)|exact s_tnil|refine s_br ?_|refine s_done ?_|refine s_seq fun K hK => ?_|refine s_region ?_|refine s_draw ?_|refine s_tree ?_|refine s_op fun K hK => ?_|refine s_opq fun K hK => ?_|refine s_ops ?_|refine s_endq ?_|simp only [go_sem,reduceToNat,reduceEq,reduceAdd,Nat.reduceBEq,reduceLeDiff,reduceLT,Int.reduceLT,reduceLE,reduceNeg,reduceCtorEq,d1,d2,hlen]|(first|(refine hK _ ?_;clear hK K)|(clear hK K;refine hK _ ?_;clear hK K)|(clear hK K;clear hK K;refine hK _ ?_;clear hK K))|refine And.intro ?_ ?_
        all_goals first|(show PostH _ _ _ _ _ _;exact ⟨[],.ptr 0 0,[curO b 0 hh],⟨hh,rfl,rfl⟩,Nat.zero_le _,by simp [StLe,leT,leH,A.Le,A.LeL,O.Le,lkp,freeT,freeH,A.free,A.freeL,cond_true,cond_false,nbeq,nble,nblt,decide_true,decide_false,reduceLT,Nat.reduceBEq,true_and,and_true,length_cons,length_nil,true_implies,and_self,Bool.and_true,Bool.true_and,Bool.and_self,St.frzs],by simp [St.frzs,evRs,RV.ev,tupA,A.Le,lkp],rfl⟩)|(simp;done)|skip
    · have d1 : decide ((i : Int) < b.length) = false:=decide_eq_false (by omega)
      clear hK1
      repeat' first|assumption|first|refine s_opt1 ?_|refine s_opt0 ?_|refine s_optq1 ?_|refine s_optq0 ?_|(refine s_norm ?_;try simp only [wsN,wsI,rmv,rng,X.ev,lkp,peel,cond_true,cond_false,nbeq,Nat.reduceBEq,reduceSub,reduceAdd,zero_add,sub_zero,sub_self,length_cons,length_nil,length_append,cons_append,nil_append,append_nil])|(refine s_take fun K hK => ?_)|(refine s_cons (fun K hK => ?_) ?_)|exact s_tnil|refine s_br ?_|refine s_done ?_|refine s_seq fun K hK => ?_|refine s_region ?_|refine s_draw ?_|refine s_tree ?_|refine s_op fun K hK => ?_|refine s_opq fun K hK => ?_|refine s_ops ?_|refine s_endq ?_|simp only [go_sem,reduceToNat,reduceEq,reduceAdd,Nat.reduceBEq,reduceLeDiff,reduceLT,Int.reduceLT,reduceLE,reduceNeg,reduceCtorEq,d1,hlen]|(first|(refine hK _ ?_;clear hK K)|(clear hK K;refine hK _ ?_;clear hK K)|(clear hK K;clear hK K;refine hK _ ?_;clear hK K))|refine And.intro ?_ ?_
      all_goals first|(show PostH _ _ _ _ _ _;exact ⟨[],.ptr 0 0,[curO b 0 hh],⟨hh,rfl,rfl⟩,Nat.zero_le _,by simp [StLe,leT,leH,A.Le,A.LeL,O.Le,lkp,freeT,freeH,A.free,A.freeL,cond_true,cond_false,nbeq,nble,nblt,decide_true,decide_false,reduceLT,Nat.reduceBEq,true_and,and_true,length_cons,length_nil,true_implies,and_self,Bool.and_true,Bool.true_and,Bool.and_self,St.frzs],by simp [St.frzs,evRs,RV.ev,tupA,A.Le,lkp],rfl⟩)|(simp;done)|skip
end Go.Proofs.YtlddcimpdkcgeaaGreatDoor
