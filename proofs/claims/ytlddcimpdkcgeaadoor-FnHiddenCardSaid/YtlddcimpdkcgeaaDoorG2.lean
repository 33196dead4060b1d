/- Terms that are drawn. -/
import Derived.Test.YtlddcimpdkcgeaaDoorG1
import Derived.Test.YtlddcimpdkcgeaaDoorF24
import Derived.Test.YtlddcimpdkcgeaaDoorF23
import Derived.Test.YtlddcimpdkcgeaaDoorF16
set_option linter.unusedVariables false
set_option linter.unusedSimpArgs false
set_option maxRecDepth 20000
set_option maxHeartbeats 8000000
namespace Go.Proofs.YtlddcimpdkcgeaaDoor
open Go Go.RowKit Sym
attribute [local irreducible] awp aops aopsQ gop gopQ gopO gopOQ gopV gopT awpN awpT awpTs ACall after

def bndN : Nat → Nat
  | 0 => 1
  | d + 1 => 2 * bndN d + 3
/-- Right, of so many, with short texts. -/
def Dr (d : Nat) (t : Term) : Prop:=rightT t = true ∧ t.nods ≤ bndN d ∧ t.cnt ≤ 30 * t.nods
theorem bndN_le {d : Nat} (h : d ≤ 3) : bndN d ≤ 29:=by
  match d,h with
  | 0,_ => decide
  | 1,_ => decide
  | 2,_ => decide
  | 3,_ => decide
theorem Dr.small {d : Nat} {t : Term} (h : Dr d t) (hd : d ≤ 3) : t.nods ≤ 29 ∧ t.cnt ≤ 870:=by
  have:=bndN_le hd
  obtain ⟨_,h2,h3⟩:=h
  omega
theorem form0 {op : Int} {ks : List Term} (ho : op = 3 ∨ op = 4 ∨ op = 6 ∨ op = 7 ∨ op = 8) : formT op 0 ⟨#[]⟩ ks = true:=by
  rcases ho with rfl|rfl|rfl|rfl|rfl
  · exact (form_plain (op:=3) (by decide) (by decide) (by decide)).2 ⟨rfl,rfl⟩
  · exact (form_plain (op:=4) (by decide) (by decide) (by decide)).2 ⟨rfl,rfl⟩
  · exact (form_plain (op:=6) (by decide) (by decide) (by decide)).2 ⟨rfl,rfl⟩
  · exact (form_plain (op:=7) (by decide) (by decide) (by decide)).2 ⟨rfl,rfl⟩
  · exact (form_plain (op:=8) (by decide) (by decide) (by decide)).2 ⟨rfl,rfl⟩
theorem right1 {op : Int} {a : Term} (ho : op = 4 ∨ op = 6) (ha : rightT a = true) : rightT (.mk op 0 ⟨#[]⟩ [a]) = true :=
  right_iff.2 ⟨by rcases ho with rfl|rfl <;> rfl,by simp [Term.kids,rightTs,ha],(show formT op 0 ⟨#[]⟩ _ = true from form0 (by rcases ho with h|h <;> simp [h]))⟩
theorem right2 {op : Int} {a b : Term} (ho : op = 3 ∨ op = 7 ∨ op = 8) (ha : rightT a = true) (hb : rightT b = true) : rightT (.mk op 0 ⟨#[]⟩ [a,b]) = true :=
  right_iff.2 ⟨by rcases ho with rfl|rfl|rfl <;> rfl,by simp [Term.kids,rightTs,ha,hb],(show formT op 0 ⟨#[]⟩ _ = true from form0 (by rcases ho with h|h|h <;> simp [h]))⟩
theorem right_share {a b : Term} (ha : rightT a = true) (hb : rightT b = true) : rightT (shareT a b) = true:=by
  have key : ∀ x y : Term,rightT x = true → rightT y = true → befT y x = false → rightT (.mk 5 0 ⟨#[]⟩ [x,y]) = true:=by
    intro x y hx hy hb
    refine right_iff.2 ⟨by simp [Term.kids,Term.op,arityT],by simp [Term.kids,rightTs,hx,hy],?_⟩
    show formT 5 0 ⟨#[]⟩ [x,y] = true
    simp [formT,bef10,hb,beqS_refl]
  unfold shareT
  cases h : befT b a with
  | true => exact key b a hb ha (bef_asymm h)
  | false => exact key a b ha hb h
theorem right_text {s : ByteArray} (h : s.size ≤ 300) : rightT (.mk 2 0 s []) = true:=by
  refine right_iff.2 ⟨rfl,rfl,?_⟩
  show formT 2 0 s [] = true
  unfold formT
  rw [if_neg (by decide),if_pos rfl,decide_eq_true (rfl : (0 : Int) = 0),cond_true]
  exact decide_eq_true (by omega)
theorem right_atom {n : Int} (h : 0 ≤ n ∧ n ≤ 1000000) : rightT (.mk 1 n ⟨#[]⟩ []) = true:=by
  refine right_iff.2 ⟨rfl,rfl,?_⟩
  have h1 : inT n 0 1000000 = true:=by
    unfold inT
    rw [decide_eq_true h.1,decide_eq_true h.2]
    rfl
  simp [Term.op,Term.n,Term.s,formT,h1,beqS_refl]
theorem nods1 (op n : Int) (s : ByteArray) (a : Term) : (Term.mk op n s [a]).nods = 1 + a.nods:=by simp [Term.nods,nodsL]
theorem nods2 (op n : Int) (s : ByteArray) (a b : Term) : (Term.mk op n s [a,b]).nods = 1 + (a.nods + b.nods):=by simp [Term.nods,nodsL]
theorem nods0 (op n : Int) (s : ByteArray) : (Term.mk op n s []).nods = 1:=by simp [Term.nods,nodsL]
theorem Dr.one {d : Nat} {op : Int} {a : Term} (ho : op = 4 ∨ op = 6) (ha : Dr d a) : Dr (d + 1) (.mk op 0 ⟨#[]⟩ [a]):=by
  obtain ⟨h1,h2,h3⟩:=ha
  refine ⟨right1 ho h1,?_,?_⟩
  · rw [nods1];simp only [bndN];omega
  · rw [nods1,cnt1];omega
theorem Dr.two {d : Nat} {op : Int} {a b : Term} (ho : op = 3 ∨ op = 7 ∨ op = 8) (ha : Dr d a) (hb : Dr d b) : Dr (d + 1) (.mk op 0 ⟨#[]⟩ [a,b]):=by
  obtain ⟨h1,h2,h3⟩:=ha
  obtain ⟨g1,g2,g3⟩:=hb
  refine ⟨right2 ho h1 g1,?_,?_⟩
  · rw [nods2];simp only [bndN];omega
  · rw [nods2,cnt2];omega
theorem nods_share (a b : Term) : (shareT a b).nods = 1 + (a.nods + b.nods):=by
  rw [Term.nods_eq]
  rcases share_kids a b with h|h <;> rw [h] <;> simp only [nodsL] <;> omega
theorem Dr.share {d : Nat} {a b : Term} (ha : Dr d a) (hb : Dr d b) : Dr (d + 1) (shareT a b):=by
  obtain ⟨h1,h2,h3⟩:=ha
  obtain ⟨g1,g2,g3⟩:=hb
  refine ⟨right_share h1 g1,?_,?_⟩
  · rw [nods_share];simp only [bndN];omega
  · have:=shareT_cnt a b
    rw [nods_share];omega
theorem rightOr_of {t : Term} (h : okT t = true) : rightOr t = t:=by unfold rightOr;rw [h];rfl
theorem Dr.ok {d : Nat} {t : Term} (h : Dr d t) (hd : d ≤ 3) : okT t = true:=ok_of_nods h.1 (by have:=h.small hd;omega)
theorem Dr.sl7 {d : Nat} {a b : Term} {n : Int} (hd : d ≤ 2) (ha : Dr d a) (hb : Dr d b) : sealT a n b = .mk 7 0 ⟨#[]⟩ [a,.mk 3 0 ⟨#[]⟩ [numT n,b]] ∧ Dr (d + 1) (sealT a n b):=by
  have hn:=numT_cnt n
  have hrn : rightT (numT n) = true:=right_text (by rw [numT,textT_cnt] at hn;omega)
  have hnn : (numT n).nods = 1:=nods0 _ _ _
  have hp : okT (.mk 3 0 ⟨#[]⟩ [numT n,b]) = true:=ok_of_nods (right2 (.inl rfl) hrn hb.1) (by rw [nods2];have:=hb.small (by omega);omega)
  have hs : Dr (d + 1) (.mk 7 0 ⟨#[]⟩ [a,.mk 3 0 ⟨#[]⟩ [numT n,b]]):=by
    obtain ⟨h1,h2,h3⟩:=ha
    obtain ⟨g1,g2,g3⟩:=hb
    refine ⟨right2 (.inr (.inl rfl)) h1 (right2 (.inl rfl) hrn g1),?_,?_⟩
    · rw [nods2,nods2];simp only [bndN];omega
    · rw [nods2,nods2,cnt2,cnt2];omega
  have he : sealT a n b = .mk 7 0 ⟨#[]⟩ [a,.mk 3 0 ⟨#[]⟩ [numT n,b]]:=by
    unfold sealT pairT
    rw [rightOr_of hp,rightOr_of (hs.ok (by omega))]
  rw [he]
  exact ⟨rfl,hs⟩
theorem Dr.agree {d : Nat} {a b : Term} (hd : d ≤ 2) (ha : Dr d a) (hb : Dr d b) : agreeT a (.mk 4 0 ⟨#[]⟩ [b]) = some (shareT a b):=by
  rw [agreeT_one ((Dr.one (.inl rfl) hb).ok (by omega)) rfl rfl,(Dr.share ha hb).ok (by omega)]
  rfl
def DrQ (b : List Int) (d : Nat) (r : A) (hs : List O) : Prop:=∃ (t : Term) (i h : Int),Dr d t ∧ 0 ≤ i ∧ r = t.v ∧ hs = [curO b i h]
def leafS : List ByteArray:=[⟨#[]⟩,⟨#[97]⟩,⟨#[109,120,46,97]⟩,⟨#[50,53,48]⟩]
theorem leafS_le {s : ByteArray} (h : s ∈ leafS) : s.size ≤ 4:=by
  simp only [leafS,List.mem_cons,List.not_mem_nil,or_false] at h
  rcases h with rfl|rfl|rfl|rfl <;> decide
theorem Dr.text {d : Nat} {s : ByteArray} (h : s.size ≤ 4) : Dr d (.mk 2 0 s []):=by
  refine ⟨right_text (by omega),?_,?_⟩
  · rw [nods0];cases d <;> simp only [bndN] <;> omega
  · rw [nods0];simp [Term.cnt,cnts];omega
theorem Dr.atom {d : Nat} {n : Int} (h : 0 ≤ n ∧ n ≤ 1000000) : Dr d (.mk 1 n ⟨#[]⟩ []):=by
  refine ⟨right_atom h,?_,?_⟩
  · rw [nods0];cases d <;> simp only [bndN] <;> omega
  · rw [nods0];simp [Term.cnt,cnts,sz0]
theorem dr_ct (b : List Int) (hb : b.length ≤ 1048576) : ∀ d : Nat,d ≤ 3 → ∀ i h : Int,0 ≤ i → CtH Tryd.prog 97 [.ptr 0 0,.d false (.int .i64 (d : Int))] [curO b i h] (DrQ b d):=by
  intro d
  induction d with
  | zero =>
    intro _ i h hi
    refine ok97.ctH mo Tryd.func97 (by simp) fun βs hok hl => ?_
    match βs,hl with
    | [v],_ =>
    unfold ac97
    simp only [pinsL,enumT,List.cons_append,List.nil_append,List.length_cons,List.length_nil]
    have d0 : decide (((0 : Nat) : Int) = 0) = true:=rfl
    repeat' first|assumption|first|refine s_opt1 ?_|refine s_opt0 ?_|refine s_optq1 ?_|refine s_optq0 ?_|(refine s_norm ?_;try simp only [wsN,wsI,rmv,rng,X.ev,lkp,peel,cond_true,cond_false,nbeq,Nat.reduceBEq,Nat.reduceSub,Nat.reduceAdd,Nat.zero_add,Nat.sub_zero,Nat.sub_self,List.length_cons,List.length_nil,List.length_append,List.cons_append,List.nil_append,List.append_nil])|(refine s_take fun K hK => ?_)|(refine s_cons (fun K hK => ?_) ?_)|exact s_tnil|refine s_br ?_|refine s_done ?_|refine s_seq fun K hK => ?_|refine s_region ?_|refine s_draw ?_|refine s_tree ?_|refine s_op fun K hK => ?_|refine s_opq fun K hK => ?_|refine s_ops ?_|refine s_endq ?_|simp only [go_sem,Int.reduceToNat,Int.reduceEq,Nat.reduceAdd,Nat.reduceBEq,Nat.reduceLeDiff,Nat.reduceLT,Int.reduceLT,Int.reduceLE,Int.reduceNeg,reduceCtorEq,d0]|(first|(refine hK _ ?_;clear hK K)|(clear hK K;refine hK _ ?_;clear hK K)|(clear hK K;clear hK K;refine hK _ ?_;clear hK K))|refine And.intro ?_ ?_|refine s_callh [] [0] (once_ct b _ _ _ hb (by assumption)) rfl rfl (by first|trivial|exact ⟨rfl,trivial⟩) (by decide) rfl (by first|exact ⟨rfl,trivial⟩|simp [allK,mkB,inL]) ?_
    rintro r hs ⟨x,i1,h1,hi1,rfl,rfl⟩
    cases x with
    | true =>
      repeat' first|assumption|first|refine s_opt1 ?_|refine s_opt0 ?_|refine s_optq1 ?_|refine s_optq0 ?_|(refine s_norm ?_;try simp only [wsN,wsI,rmv,rng,X.ev,lkp,peel,cond_true,cond_false,nbeq,Nat.reduceBEq,Nat.reduceSub,Nat.reduceAdd,Nat.zero_add,Nat.sub_zero,Nat.sub_self,List.length_cons,List.length_nil,List.length_append,List.cons_append,List.nil_append,List.append_nil])|(refine s_take fun K hK => ?_)|(refine s_cons (fun K hK => ?_) ?_)|exact s_tnil|refine s_br ?_|refine s_done ?_|refine s_seq fun K hK => ?_|refine s_region ?_|refine s_draw ?_|refine s_tree ?_|refine s_op fun K hK => ?_|refine s_opq fun K hK => ?_|refine s_ops ?_|refine s_endq ?_|simp only [go_sem,Int.reduceToNat,Int.reduceEq,Nat.reduceAdd,Nat.reduceBEq,Nat.reduceLeDiff,Nat.reduceLT,Int.reduceLT,Int.reduceLE,Int.reduceNeg,reduceCtorEq,d0]|(first|(refine hK _ ?_;clear hK K)|(clear hK K;refine hK _ ?_;clear hK K)|(clear hK K;clear hK K;refine hK _ ?_;clear hK K))|refine And.intro ?_ ?_|refine s_callh [2] [0] (pick_ct b leafS _ _ hb (by assumption) (by decide)) rfl rfl (by first|trivial|exact ⟨rfl,trivial⟩) (by decide) rfl (by first|exact ⟨rfl,trivial⟩|simp [allK,mkB,inL]) ?_
      all_goals first|(simp;done)|skip
      rintro r hs ⟨s,i2,h2,hs,hi2,rfl,rfl⟩
      have hdr:=Dr.text (d:=0) (leafS_le hs)
      repeat' first|assumption|first|refine s_opt1 ?_|refine s_opt0 ?_|refine s_optq1 ?_|refine s_optq0 ?_|(refine s_norm ?_;try simp only [wsN,wsI,rmv,rng,X.ev,lkp,peel,cond_true,cond_false,nbeq,Nat.reduceBEq,Nat.reduceSub,Nat.reduceAdd,Nat.zero_add,Nat.sub_zero,Nat.sub_self,List.length_cons,List.length_nil,List.length_append,List.cons_append,List.nil_append,List.append_nil])|(refine s_take fun K hK => ?_)|(refine s_cons (fun K hK => ?_) ?_)|exact s_tnil|refine s_br ?_|refine s_done ?_|refine s_seq fun K hK => ?_|refine s_region ?_|refine s_draw ?_|refine s_tree ?_|refine s_op fun K hK => ?_|refine s_opq fun K hK => ?_|refine s_ops ?_|refine s_endq ?_|simp only [go_sem,Int.reduceToNat,Int.reduceEq,Nat.reduceAdd,Nat.reduceBEq,Nat.reduceLeDiff,Nat.reduceLT,Int.reduceLT,Int.reduceLE,Int.reduceNeg,reduceCtorEq,d0]|(first|(refine hK _ ?_;clear hK K)|(clear hK K;refine hK _ ?_;clear hK K)|(clear hK K;clear hK K;refine hK _ ?_;clear hK K))|refine And.intro ?_ ?_
      all_goals first|(show PostH _ _ _ _ _ _;exact ⟨[],(.mk 2 0 s [] : Term).v,[curO b i2 h2],⟨.mk 2 0 s [],i2,h2,hdr,hi2,rfl,rfl⟩,Nat.le_refl _,by simp [StLe,leT,leH,A.Le,A.LeL,O.Le,lkp,freeT,freeH,A.free,A.freeL,cond_true,cond_false,nbeq,nble,nblt,decide_true,decide_false,Nat.reduceLT,Nat.reduceBEq,true_and,and_true,List.length_cons,List.length_nil,true_implies,and_self,Bool.and_true,Bool.true_and,Bool.and_self,St.frzs],by simp [St.frzs,evRs,RV.ev,tupA,A.Le,A.LeL,lkp,Term.v_eq,op_mk,n_mk,s_mk,kids_mk,encs,Term.enc_eq,nble],rfl⟩)|(simp;done)
    | false =>
      repeat' first|assumption|first|refine s_opt1 ?_|refine s_opt0 ?_|refine s_optq1 ?_|refine s_optq0 ?_|(refine s_norm ?_;try simp only [wsN,wsI,rmv,rng,X.ev,lkp,peel,cond_true,cond_false,nbeq,Nat.reduceBEq,Nat.reduceSub,Nat.reduceAdd,Nat.zero_add,Nat.sub_zero,Nat.sub_self,List.length_cons,List.length_nil,List.length_append,List.cons_append,List.nil_append,List.append_nil])|(refine s_take fun K hK => ?_)|(refine s_cons (fun K hK => ?_) ?_)|exact s_tnil|refine s_br ?_|refine s_done ?_|refine s_seq fun K hK => ?_|refine s_region ?_|refine s_draw ?_|refine s_tree ?_|refine s_op fun K hK => ?_|refine s_opq fun K hK => ?_|refine s_ops ?_|refine s_endq ?_|simp only [go_sem,Int.reduceToNat,Int.reduceEq,Nat.reduceAdd,Nat.reduceBEq,Nat.reduceLeDiff,Nat.reduceLT,Int.reduceLT,Int.reduceLE,Int.reduceNeg,reduceCtorEq,d0]|(first|(refine hK _ ?_;clear hK K)|(clear hK K;refine hK _ ?_;clear hK K)|(clear hK K;clear hK K;refine hK _ ?_;clear hK K))|refine And.intro ?_ ?_|refine s_callh [] [0] (below_ct b _ _ _ hb (by assumption)) rfl rfl (by first|trivial|exact ⟨rfl,trivial⟩) (by decide) rfl (by first|exact ⟨rfl,trivial⟩|simp [allK,mkB,inL]) ?_
      rintro r hs ⟨x,i2,h2,x0,x1,_,hi2,rfl,rfl⟩
      have hdr:=Dr.atom (d:=0) (n:=x) ⟨x0,by have:=x1 (by decide);omega⟩
      repeat' first|assumption|first|refine s_opt1 ?_|refine s_opt0 ?_|refine s_optq1 ?_|refine s_optq0 ?_|(refine s_norm ?_;try simp only [wsN,wsI,rmv,rng,X.ev,lkp,peel,cond_true,cond_false,nbeq,Nat.reduceBEq,Nat.reduceSub,Nat.reduceAdd,Nat.zero_add,Nat.sub_zero,Nat.sub_self,List.length_cons,List.length_nil,List.length_append,List.cons_append,List.nil_append,List.append_nil])|(refine s_take fun K hK => ?_)|(refine s_cons (fun K hK => ?_) ?_)|exact s_tnil|refine s_br ?_|refine s_done ?_|refine s_seq fun K hK => ?_|refine s_region ?_|refine s_draw ?_|refine s_tree ?_|refine s_op fun K hK => ?_|refine s_opq fun K hK => ?_|refine s_ops ?_|refine s_endq ?_|simp only [go_sem,Int.reduceToNat,Int.reduceEq,Nat.reduceAdd,Nat.reduceBEq,Nat.reduceLeDiff,Nat.reduceLT,Int.reduceLT,Int.reduceLE,Int.reduceNeg,reduceCtorEq,d0]|(first|(refine hK _ ?_;clear hK K)|(clear hK K;refine hK _ ?_;clear hK K)|(clear hK K;clear hK K;refine hK _ ?_;clear hK K))|refine And.intro ?_ ?_
      all_goals first|(show PostH _ _ _ _ _ _;exact ⟨[],(.mk 1 x ⟨#[]⟩ [] : Term).v,[curO b i2 h2],⟨.mk 1 x ⟨#[]⟩ [],i2,h2,hdr,hi2,rfl,rfl⟩,Nat.le_refl _,by simp [StLe,leT,leH,A.Le,A.LeL,O.Le,lkp,freeT,freeH,A.free,A.freeL,cond_true,cond_false,nbeq,nble,nblt,decide_true,decide_false,Nat.reduceLT,Nat.reduceBEq,true_and,and_true,List.length_cons,List.length_nil,true_implies,and_self,Bool.and_true,Bool.true_and,Bool.and_self,St.frzs],by simp [St.frzs,evRs,RV.ev,tupA,A.Le,A.LeL,lkp,Term.v_eq,op_mk,n_mk,s_mk,kids_mk,encs,Term.enc_eq,nble],rfl⟩)|(simp;done)
  | succ d ih =>
    intro hd i h hi
    have ih:=ih (by omega)
    have hd2 : d ≤ 2:=by omega
    refine ok97.ctH mo Tryd.func97 (by simp) fun βs hok hl => ?_
    match βs,hl with
    | [v],_ =>
    unfold ac97
    simp only [pinsL,enumT,List.cons_append,List.nil_append,List.length_cons,List.length_nil]
    have d0 : decide (((d + 1 : Nat) : Int) = 0) = false:=decide_eq_false (by omega)
    have dw : wrap64 (((d + 1 : Nat) : Int) - 1) = (d : Int):=by rw [w64 (by omega) (by omega)];omega
    repeat' first|assumption|first|refine s_opt1 ?_|refine s_opt0 ?_|refine s_optq1 ?_|refine s_optq0 ?_|(refine s_norm ?_;try simp only [wsN,wsI,rmv,rng,X.ev,lkp,peel,cond_true,cond_false,nbeq,Nat.reduceBEq,Nat.reduceSub,Nat.reduceAdd,Nat.zero_add,Nat.sub_zero,Nat.sub_self,List.length_cons,List.length_nil,List.length_append,List.cons_append,List.nil_append,List.append_nil])|(refine s_take fun K hK => ?_)|(refine s_cons (fun K hK => ?_) ?_)|exact s_tnil|refine s_br ?_|refine s_done ?_|refine s_seq fun K hK => ?_|refine s_region ?_|refine s_draw ?_|refine s_tree ?_|refine s_op fun K hK => ?_|refine s_opq fun K hK => ?_|refine s_ops ?_|refine s_endq ?_|simp only [go_sem,Int.reduceToNat,Int.reduceEq,Nat.reduceAdd,Nat.reduceBEq,Nat.reduceLeDiff,Nat.reduceLT,Int.reduceLT,Int.reduceLE,Int.reduceNeg,reduceCtorEq,d0]|(first|(refine hK _ ?_;clear hK K)|(clear hK K;refine hK _ ?_;clear hK K)|(clear hK K;clear hK K;refine hK _ ?_;clear hK K))|refine And.intro ?_ ?_|refine s_callh [] [0] (once_ct b _ _ _ hb (by assumption)) rfl rfl (by first|trivial|exact ⟨rfl,trivial⟩) (by decide) rfl (by first|exact ⟨rfl,trivial⟩|simp [allK,mkB,inL]) ?_
    rintro r hs ⟨x,i1,h1,hi1,rfl,rfl⟩
    cases x with
    | true =>
      repeat' first|assumption|first|refine s_opt1 ?_|refine s_opt0 ?_|refine s_optq1 ?_|refine s_optq0 ?_|(refine s_norm ?_;try simp only [wsN,wsI,rmv,rng,X.ev,lkp,peel,cond_true,cond_false,nbeq,Nat.reduceBEq,Nat.reduceSub,Nat.reduceAdd,Nat.zero_add,Nat.sub_zero,Nat.sub_self,List.length_cons,List.length_nil,List.length_append,List.cons_append,List.nil_append,List.append_nil])|(refine s_take fun K hK => ?_)|(refine s_cons (fun K hK => ?_) ?_)|exact s_tnil|refine s_br ?_|refine s_done ?_|refine s_seq fun K hK => ?_|refine s_region ?_|refine s_draw ?_|refine s_tree ?_|refine s_op fun K hK => ?_|refine s_opq fun K hK => ?_|refine s_ops ?_|refine s_endq ?_|simp only [go_sem,Int.reduceToNat,Int.reduceEq,Nat.reduceAdd,Nat.reduceBEq,Nat.reduceLeDiff,Nat.reduceLT,Int.reduceLT,Int.reduceLE,Int.reduceNeg,reduceCtorEq,d0]|(first|(refine hK _ ?_;clear hK K)|(clear hK K;refine hK _ ?_;clear hK K)|(clear hK K;clear hK K;refine hK _ ?_;clear hK K))|refine And.intro ?_ ?_|refine s_callh [] [0] (once_ct b _ _ _ hb (by assumption)) rfl rfl (by first|trivial|exact ⟨rfl,trivial⟩) (by decide) rfl (by first|exact ⟨rfl,trivial⟩|simp [allK,mkB,inL]) ?_
      all_goals first|(simp;done)|skip
      rintro r hs ⟨x,i1,h1,hi1,rfl,rfl⟩
      cases x with
      | true =>
        repeat' first|assumption|first|refine s_opt1 ?_|refine s_opt0 ?_|refine s_optq1 ?_|refine s_optq0 ?_|(refine s_norm ?_;try simp only [wsN,wsI,rmv,rng,X.ev,lkp,peel,cond_true,cond_false,nbeq,Nat.reduceBEq,Nat.reduceSub,Nat.reduceAdd,Nat.zero_add,Nat.sub_zero,Nat.sub_self,List.length_cons,List.length_nil,List.length_append,List.cons_append,List.nil_append,List.append_nil])|(refine s_take fun K hK => ?_)|(refine s_cons (fun K hK => ?_) ?_)|exact s_tnil|refine s_br ?_|refine s_done ?_|refine s_seq fun K hK => ?_|refine s_region ?_|refine s_draw ?_|refine s_tree ?_|refine s_op fun K hK => ?_|refine s_opq fun K hK => ?_|refine s_ops ?_|refine s_endq ?_|simp only [go_sem,Int.reduceToNat,Int.reduceEq,Nat.reduceAdd,Nat.reduceBEq,Nat.reduceLeDiff,Nat.reduceLT,Int.reduceLT,Int.reduceLE,Int.reduceNeg,reduceCtorEq,d0]|(first|(refine hK _ ?_;clear hK K)|(clear hK K;refine hK _ ?_;clear hK K)|(clear hK K;clear hK K;refine hK _ ?_;clear hK K))|refine And.intro ?_ ?_|refine s_callh [2] [0] (pick_ct b leafS _ _ hb (by assumption) (by decide)) rfl rfl (by first|trivial|exact ⟨rfl,trivial⟩) (by decide) rfl (by first|exact ⟨rfl,trivial⟩|simp [allK,mkB,inL]) ?_
        all_goals first|(simp;done)|skip
        rintro r hs ⟨s,i2,h2,hs,hi2,rfl,rfl⟩
        have hdr:=Dr.text (d:=d + 1) (leafS_le hs)
        repeat' first|assumption|first|refine s_opt1 ?_|refine s_opt0 ?_|refine s_optq1 ?_|refine s_optq0 ?_|(refine s_norm ?_;try simp only [wsN,wsI,rmv,rng,X.ev,lkp,peel,cond_true,cond_false,nbeq,Nat.reduceBEq,Nat.reduceSub,Nat.reduceAdd,Nat.zero_add,Nat.sub_zero,Nat.sub_self,List.length_cons,List.length_nil,List.length_append,List.cons_append,List.nil_append,List.append_nil])|(refine s_take fun K hK => ?_)|(refine s_cons (fun K hK => ?_) ?_)|exact s_tnil|refine s_br ?_|refine s_done ?_|refine s_seq fun K hK => ?_|refine s_region ?_|refine s_draw ?_|refine s_tree ?_|refine s_op fun K hK => ?_|refine s_opq fun K hK => ?_|refine s_ops ?_|refine s_endq ?_|simp only [go_sem,Int.reduceToNat,Int.reduceEq,Nat.reduceAdd,Nat.reduceBEq,Nat.reduceLeDiff,Nat.reduceLT,Int.reduceLT,Int.reduceLE,Int.reduceNeg,reduceCtorEq,d0]|(first|(refine hK _ ?_;clear hK K)|(clear hK K;refine hK _ ?_;clear hK K)|(clear hK K;clear hK K;refine hK _ ?_;clear hK K))|refine And.intro ?_ ?_
        all_goals first|(show PostH _ _ _ _ _ _;exact ⟨[],(.mk 2 0 s [] : Term).v,[curO b i2 h2],⟨.mk 2 0 s [],i2,h2,hdr,hi2,rfl,rfl⟩,Nat.le_refl _,by simp [StLe,leT,leH,A.Le,A.LeL,O.Le,lkp,freeT,freeH,A.free,A.freeL,cond_true,cond_false,nbeq,nble,nblt,decide_true,decide_false,Nat.reduceLT,Nat.reduceBEq,true_and,and_true,List.length_cons,List.length_nil,true_implies,and_self,Bool.and_true,Bool.true_and,Bool.and_self,St.frzs],by simp [St.frzs,evRs,RV.ev,tupA,A.Le,A.LeL,lkp,Term.v_eq,op_mk,n_mk,s_mk,kids_mk,encs,Term.enc_eq,nble],rfl⟩)|(simp;done)
      | false =>
        repeat' first|assumption|first|refine s_opt1 ?_|refine s_opt0 ?_|refine s_optq1 ?_|refine s_optq0 ?_|(refine s_norm ?_;try simp only [wsN,wsI,rmv,rng,X.ev,lkp,peel,cond_true,cond_false,nbeq,Nat.reduceBEq,Nat.reduceSub,Nat.reduceAdd,Nat.zero_add,Nat.sub_zero,Nat.sub_self,List.length_cons,List.length_nil,List.length_append,List.cons_append,List.nil_append,List.append_nil])|(refine s_take fun K hK => ?_)|(refine s_cons (fun K hK => ?_) ?_)|exact s_tnil|refine s_br ?_|refine s_done ?_|refine s_seq fun K hK => ?_|refine s_region ?_|refine s_draw ?_|refine s_tree ?_|refine s_op fun K hK => ?_|refine s_opq fun K hK => ?_|refine s_ops ?_|refine s_endq ?_|simp only [go_sem,Int.reduceToNat,Int.reduceEq,Nat.reduceAdd,Nat.reduceBEq,Nat.reduceLeDiff,Nat.reduceLT,Int.reduceLT,Int.reduceLE,Int.reduceNeg,reduceCtorEq,d0]|(first|(refine hK _ ?_;clear hK K)|(clear hK K;refine hK _ ?_;clear hK K)|(clear hK K;clear hK K;refine hK _ ?_;clear hK K))|refine And.intro ?_ ?_|refine s_callh [] [0] (below_ct b _ _ _ hb (by assumption)) rfl rfl (by first|trivial|exact ⟨rfl,trivial⟩) (by decide) rfl (by first|exact ⟨rfl,trivial⟩|simp [allK,mkB,inL]) ?_
        rintro r hs ⟨x,i2,h2,x0,x1,_,hi2,rfl,rfl⟩
        have hdr:=Dr.atom (d:=d + 1) (n:=x) ⟨x0,by have:=x1 (by decide);omega⟩
        repeat' first|assumption|first|refine s_opt1 ?_|refine s_opt0 ?_|refine s_optq1 ?_|refine s_optq0 ?_|(refine s_norm ?_;try simp only [wsN,wsI,rmv,rng,X.ev,lkp,peel,cond_true,cond_false,nbeq,Nat.reduceBEq,Nat.reduceSub,Nat.reduceAdd,Nat.zero_add,Nat.sub_zero,Nat.sub_self,List.length_cons,List.length_nil,List.length_append,List.cons_append,List.nil_append,List.append_nil])|(refine s_take fun K hK => ?_)|(refine s_cons (fun K hK => ?_) ?_)|exact s_tnil|refine s_br ?_|refine s_done ?_|refine s_seq fun K hK => ?_|refine s_region ?_|refine s_draw ?_|refine s_tree ?_|refine s_op fun K hK => ?_|refine s_opq fun K hK => ?_|refine s_ops ?_|refine s_endq ?_|simp only [go_sem,Int.reduceToNat,Int.reduceEq,Nat.reduceAdd,Nat.reduceBEq,Nat.reduceLeDiff,Nat.reduceLT,Int.reduceLT,Int.reduceLE,Int.reduceNeg,reduceCtorEq,d0]|(first|(refine hK _ ?_;clear hK K)|(clear hK K;refine hK _ ?_;clear hK K)|(clear hK K;clear hK K;refine hK _ ?_;clear hK K))|refine And.intro ?_ ?_
        all_goals first|(show PostH _ _ _ _ _ _;exact ⟨[],(.mk 1 x ⟨#[]⟩ [] : Term).v,[curO b i2 h2],⟨.mk 1 x ⟨#[]⟩ [],i2,h2,hdr,hi2,rfl,rfl⟩,Nat.le_refl _,by simp [StLe,leT,leH,A.Le,A.LeL,O.Le,lkp,freeT,freeH,A.free,A.freeL,cond_true,cond_false,nbeq,nble,nblt,decide_true,decide_false,Nat.reduceLT,Nat.reduceBEq,true_and,and_true,List.length_cons,List.length_nil,true_implies,and_self,Bool.and_true,Bool.true_and,Bool.and_self,St.frzs],by simp [St.frzs,evRs,RV.ev,tupA,A.Le,A.LeL,lkp,Term.v_eq,op_mk,n_mk,s_mk,kids_mk,encs,Term.enc_eq,nble],rfl⟩)|(simp;done)
    | false =>
      repeat' first|assumption|first|refine s_opt1 ?_|refine s_opt0 ?_|refine s_optq1 ?_|refine s_optq0 ?_|(refine s_norm ?_;try simp only [wsN,wsI,rmv,rng,X.ev,lkp,peel,cond_true,cond_false,nbeq,Nat.reduceBEq,Nat.reduceSub,Nat.reduceAdd,Nat.zero_add,Nat.sub_zero,Nat.sub_self,List.length_cons,List.length_nil,List.length_append,List.cons_append,List.nil_append,List.append_nil])|(refine s_take fun K hK => ?_)|(refine s_cons (fun K hK => ?_) ?_)|exact s_tnil|refine s_br ?_|refine s_done ?_|refine s_seq fun K hK => ?_|refine s_region ?_|refine s_draw ?_|refine s_tree ?_|refine s_op fun K hK => ?_|refine s_opq fun K hK => ?_|refine s_ops ?_|refine s_endq ?_|simp only [go_sem,Int.reduceToNat,Int.reduceEq,Nat.reduceAdd,Nat.reduceBEq,Nat.reduceLeDiff,Nat.reduceLT,Int.reduceLT,Int.reduceLE,Int.reduceNeg,reduceCtorEq,d0,dw]|(first|(refine hK _ ?_;clear hK K)|(clear hK K;refine hK _ ?_;clear hK K)|(clear hK K;clear hK K;refine hK _ ?_;clear hK K))|refine And.intro ?_ ?_|refine s_callh [] [0] (ih _ _ (by assumption)) rfl rfl (by first|trivial|exact ⟨rfl,trivial⟩) (by decide) rfl (by first|exact ⟨rfl,trivial⟩|simp [allK,mkB,inL]) ?_
      all_goals first|(simp;done)|skip
      rintro r hs ⟨a,i2,h2,ha,hi2,rfl,rfl⟩
      have sa:=ha.small (by omega)
      repeat' first|assumption|first|refine s_opt1 ?_|refine s_opt0 ?_|refine s_optq1 ?_|refine s_optq0 ?_|(refine s_norm ?_;try simp only [wsN,wsI,rmv,rng,X.ev,lkp,peel,cond_true,cond_false,nbeq,Nat.reduceBEq,Nat.reduceSub,Nat.reduceAdd,Nat.zero_add,Nat.sub_zero,Nat.sub_self,List.length_cons,List.length_nil,List.length_append,List.cons_append,List.nil_append,List.append_nil])|(refine s_take fun K hK => ?_)|(refine s_cons (fun K hK => ?_) ?_)|exact s_tnil|refine s_br ?_|refine s_done ?_|refine s_seq fun K hK => ?_|refine s_region ?_|refine s_draw ?_|refine s_tree ?_|refine s_op fun K hK => ?_|refine s_opq fun K hK => ?_|refine s_ops ?_|refine s_endq ?_|simp only [go_sem,Int.reduceToNat,Int.reduceEq,Nat.reduceAdd,Nat.reduceBEq,Nat.reduceLeDiff,Nat.reduceLT,Int.reduceLT,Int.reduceLE,Int.reduceNeg,reduceCtorEq,d0,dw]|(first|(refine hK _ ?_;clear hK K)|(clear hK K;refine hK _ ?_;clear hK K)|(clear hK K;clear hK K;refine hK _ ?_;clear hK K))|refine And.intro ?_ ?_|refine s_callh [] [0] (below_ct b _ _ _ hb (by assumption)) rfl rfl (by first|trivial|exact ⟨rfl,trivial⟩) (by decide) rfl (by first|exact ⟨rfl,trivial⟩|simp [allK,mkB,inL]) ?_
      rintro r hs ⟨x,i3,h3,x0,x1,_,hi3,rfl,rfl⟩
      have x7:=x1 (by decide)
      clear x1
      have hx : x = 0 ∨ x = 1 ∨ x = 2 ∨ x = 3 ∨ x = 4 ∨ x = 5 ∨ x = 6:=by omega
      have cpub : ∀ t : Term,Dr d t → Ct Tryd.prog 102 [t.v] (Term.mk 4 0 ⟨#[]⟩ [t]).v:=fun t ht => by
        have:=pub1_ct t (by have:=ht.small (by omega);omega)
        rwa [rightOr_of ((Dr.one (.inl rfl) ht).ok hd)] at this
      rcases hx with rfl|rfl|rfl|rfl|rfl|rfl|rfl
      · have hdr:=Dr.one (op:=4) (.inl rfl) ha
        have c:=cpub a ha
        simp only [Term.v_eq,op_mk,n_mk,s_mk,kids_mk,encs,Term.enc_eq] at c
        repeat' first|assumption|first|refine s_opt1 ?_|refine s_opt0 ?_|refine s_optq1 ?_|refine s_optq0 ?_|(refine s_norm ?_;try simp only [wsN,wsI,rmv,rng,X.ev,lkp,peel,cond_true,cond_false,nbeq,Nat.reduceBEq,Nat.reduceSub,Nat.reduceAdd,Nat.zero_add,Nat.sub_zero,Nat.sub_self,List.length_cons,List.length_nil,List.length_append,List.cons_append,List.nil_append,List.append_nil])|(refine s_take fun K hK => ?_)|(refine s_cons (fun K hK => ?_) ?_)|exact s_tnil|refine s_br ?_|refine s_done ?_|refine s_seq fun K hK => ?_|refine s_region ?_|refine s_draw ?_|refine s_tree ?_|refine s_op fun K hK => ?_|refine s_opq fun K hK => ?_|refine s_ops ?_|refine s_endq ?_|simp only [go_sem,Int.reduceToNat,Int.reduceEq,Nat.reduceAdd,Nat.reduceBEq,Nat.reduceLeDiff,Nat.reduceLT,Int.reduceLT,Int.reduceLE,Int.reduceNeg,reduceCtorEq,d0]|(first|(refine hK _ ?_;clear hK K)|(clear hK K;refine hK _ ?_;clear hK K)|(clear hK K;clear hK K;refine hK _ ?_;clear hK K))|refine And.intro ?_ ?_|refine s_call c ?_
        all_goals first|(show PostH _ _ _ _ _ _;exact ⟨[],(.mk 4 0 ⟨#[]⟩ [a] : Term).v,[curO b i3 h3],⟨.mk 4 0 ⟨#[]⟩ [a],i3,h3,hdr,hi3,rfl,rfl⟩,Nat.le_refl _,by simp [StLe,leT,leH,A.Le,A.LeL,O.Le,lkp,freeT,freeH,A.free,A.freeL,cond_true,cond_false,nbeq,nble,nblt,decide_true,decide_false,Nat.reduceLT,Nat.reduceBEq,true_and,and_true,List.length_cons,List.length_nil,true_implies,and_self,Bool.and_true,Bool.true_and,Bool.and_self,St.frzs],by simp [St.frzs,evRs,RV.ev,tupA,A.Le,A.LeL,lkp,Term.v_eq,op_mk,n_mk,s_mk,kids_mk,encs,Term.enc_eq,nble],rfl⟩)|(simp;done)
      · have hdr:=Dr.one (op:=6) (.inr rfl) ha
        have c:=hash1_ct a (by omega)
        rw [rightOr_of (hdr.ok hd)] at c
        simp only [Term.v_eq,op_mk,n_mk,s_mk,kids_mk,encs,Term.enc_eq] at c
        repeat' first|assumption|first|refine s_opt1 ?_|refine s_opt0 ?_|refine s_optq1 ?_|refine s_optq0 ?_|(refine s_norm ?_;try simp only [wsN,wsI,rmv,rng,X.ev,lkp,peel,cond_true,cond_false,nbeq,Nat.reduceBEq,Nat.reduceSub,Nat.reduceAdd,Nat.zero_add,Nat.sub_zero,Nat.sub_self,List.length_cons,List.length_nil,List.length_append,List.cons_append,List.nil_append,List.append_nil])|(refine s_take fun K hK => ?_)|(refine s_cons (fun K hK => ?_) ?_)|exact s_tnil|refine s_br ?_|refine s_done ?_|refine s_seq fun K hK => ?_|refine s_region ?_|refine s_draw ?_|refine s_tree ?_|refine s_op fun K hK => ?_|refine s_opq fun K hK => ?_|refine s_ops ?_|refine s_endq ?_|simp only [go_sem,Int.reduceToNat,Int.reduceEq,Nat.reduceAdd,Nat.reduceBEq,Nat.reduceLeDiff,Nat.reduceLT,Int.reduceLT,Int.reduceLE,Int.reduceNeg,reduceCtorEq,d0]|(first|(refine hK _ ?_;clear hK K)|(clear hK K;refine hK _ ?_;clear hK K)|(clear hK K;clear hK K;refine hK _ ?_;clear hK K))|refine And.intro ?_ ?_|refine s_call c ?_
        all_goals first|(show PostH _ _ _ _ _ _;exact ⟨[],(.mk 6 0 ⟨#[]⟩ [a] : Term).v,[curO b i3 h3],⟨.mk 6 0 ⟨#[]⟩ [a],i3,h3,hdr,hi3,rfl,rfl⟩,Nat.le_refl _,by simp [StLe,leT,leH,A.Le,A.LeL,O.Le,lkp,freeT,freeH,A.free,A.freeL,cond_true,cond_false,nbeq,nble,nblt,decide_true,decide_false,Nat.reduceLT,Nat.reduceBEq,true_and,and_true,List.length_cons,List.length_nil,true_implies,and_self,Bool.and_true,Bool.true_and,Bool.and_self,St.frzs],by simp [St.frzs,evRs,RV.ev,tupA,A.Le,A.LeL,lkp,Term.v_eq,op_mk,n_mk,s_mk,kids_mk,encs,Term.enc_eq,nble],rfl⟩)|(simp;done)
      · repeat' first|assumption|first|refine s_opt1 ?_|refine s_opt0 ?_|refine s_optq1 ?_|refine s_optq0 ?_|(refine s_norm ?_;try simp only [wsN,wsI,rmv,rng,X.ev,lkp,peel,cond_true,cond_false,nbeq,Nat.reduceBEq,Nat.reduceSub,Nat.reduceAdd,Nat.zero_add,Nat.sub_zero,Nat.sub_self,List.length_cons,List.length_nil,List.length_append,List.cons_append,List.nil_append,List.append_nil])|(refine s_take fun K hK => ?_)|(refine s_cons (fun K hK => ?_) ?_)|exact s_tnil|refine s_br ?_|refine s_done ?_|refine s_seq fun K hK => ?_|refine s_region ?_|refine s_draw ?_|refine s_tree ?_|refine s_op fun K hK => ?_|refine s_opq fun K hK => ?_|refine s_ops ?_|refine s_endq ?_|simp only [go_sem,Int.reduceToNat,Int.reduceEq,Nat.reduceAdd,Nat.reduceBEq,Nat.reduceLeDiff,Nat.reduceLT,Int.reduceLT,Int.reduceLE,Int.reduceNeg,reduceCtorEq,d0,dw]|(first|(refine hK _ ?_;clear hK K)|(clear hK K;refine hK _ ?_;clear hK K)|(clear hK K;clear hK K;refine hK _ ?_;clear hK K))|refine And.intro ?_ ?_|refine s_callh [] [0] (ih _ _ (by assumption)) rfl rfl (by first|trivial|exact ⟨rfl,trivial⟩) (by decide) rfl (by first|exact ⟨rfl,trivial⟩|simp [allK,mkB,inL]) ?_
        all_goals first|(show ∀ _ _,_ → _;skip)|(simp;done)
        all_goals
          rintro r hs ⟨c,i4,h4,hc,hi4,rfl,rfl⟩
          have sc:=hc.small (by omega)
          have hdr:=Dr.share ha hc
          have hs5 : (shareT a c).op = 5:=by unfold shareT;cases befT c a <;> rfl
          have c1:=cpub c hc
          have c2:=agree1_ct a (.mk 4 0 ⟨#[]⟩ [c]) (by omega) (by rw [cnt1];omega)
          rw [Dr.agree hd2 ha hc] at c2
          simp only [optV,Option.getD_some,Option.isSome_some] at c2
          generalize shareT a c = g at *
          simp only [Term.v_eq,op_mk,n_mk,s_mk,kids_mk,encs,Term.enc_eq] at c1 c2
          repeat' first|assumption|first|refine s_opt1 ?_|refine s_opt0 ?_|refine s_optq1 ?_|refine s_optq0 ?_|(refine s_norm ?_;try simp only [wsN,wsI,rmv,rng,X.ev,lkp,peel,cond_true,cond_false,nbeq,Nat.reduceBEq,Nat.reduceSub,Nat.reduceAdd,Nat.zero_add,Nat.sub_zero,Nat.sub_self,List.length_cons,List.length_nil,List.length_append,List.cons_append,List.nil_append,List.append_nil])|(refine s_take fun K hK => ?_)|(refine s_cons (fun K hK => ?_) ?_)|exact s_tnil|refine s_br ?_|refine s_done ?_|refine s_seq fun K hK => ?_|refine s_region ?_|refine s_draw ?_|refine s_tree ?_|refine s_op fun K hK => ?_|refine s_opq fun K hK => ?_|refine s_ops ?_|refine s_endq ?_|simp only [go_sem,Int.reduceToNat,Int.reduceEq,Nat.reduceAdd,Nat.reduceBEq,Nat.reduceLeDiff,Nat.reduceLT,Int.reduceLT,Int.reduceLE,Int.reduceNeg,reduceCtorEq,d0,dw]|(first|(refine hK _ ?_;clear hK K)|(clear hK K;refine hK _ ?_;clear hK K)|(clear hK K;clear hK K;refine hK _ ?_;clear hK K))|refine And.intro ?_ ?_|refine s_call c1 ?_|refine s_call c2 ?_
          all_goals first|(show PostH _ _ _ _ _ _;exact ⟨[],(g : Term).v,[curO b i4 h4],⟨g,i4,h4,hdr,hi4,rfl,rfl⟩,Nat.le_refl _,by simp [StLe,leT,leH,A.Le,A.LeL,O.Le,lkp,freeT,freeH,A.free,A.freeL,cond_true,cond_false,nbeq,nble,nblt,decide_true,decide_false,Nat.reduceLT,Nat.reduceBEq,true_and,and_true,List.length_cons,List.length_nil,true_implies,and_self,Bool.and_true,Bool.true_and,Bool.and_self,St.frzs],by simp [St.frzs,evRs,RV.ev,tupA,A.Le,A.LeL,lkp,Term.v_eq,op_mk,n_mk,s_mk,kids_mk,encs,Term.enc_eq,nble],rfl⟩)|(simp;done)
      · repeat' first|assumption|first|refine s_opt1 ?_|refine s_opt0 ?_|refine s_optq1 ?_|refine s_optq0 ?_|(refine s_norm ?_;try simp only [wsN,wsI,rmv,rng,X.ev,lkp,peel,cond_true,cond_false,nbeq,Nat.reduceBEq,Nat.reduceSub,Nat.reduceAdd,Nat.zero_add,Nat.sub_zero,Nat.sub_self,List.length_cons,List.length_nil,List.length_append,List.cons_append,List.nil_append,List.append_nil])|(refine s_take fun K hK => ?_)|(refine s_cons (fun K hK => ?_) ?_)|exact s_tnil|refine s_br ?_|refine s_done ?_|refine s_seq fun K hK => ?_|refine s_region ?_|refine s_draw ?_|refine s_tree ?_|refine s_op fun K hK => ?_|refine s_opq fun K hK => ?_|refine s_ops ?_|refine s_endq ?_|simp only [go_sem,Int.reduceToNat,Int.reduceEq,Nat.reduceAdd,Nat.reduceBEq,Nat.reduceLeDiff,Nat.reduceLT,Int.reduceLT,Int.reduceLE,Int.reduceNeg,reduceCtorEq,d0,dw]|(first|(refine hK _ ?_;clear hK K)|(clear hK K;refine hK _ ?_;clear hK K)|(clear hK K;clear hK K;refine hK _ ?_;clear hK K))|refine And.intro ?_ ?_|refine s_callh [] [0] (below_ct b _ _ _ hb (by assumption)) rfl rfl (by first|trivial|exact ⟨rfl,trivial⟩) (by decide) rfl (by first|exact ⟨rfl,trivial⟩|simp [allK,mkB,inL]) ?_
        rintro r hs ⟨n,i4,h4,n0,n1,_,hi4,rfl,rfl⟩
        clear n1
        repeat' first|assumption|first|refine s_opt1 ?_|refine s_opt0 ?_|refine s_optq1 ?_|refine s_optq0 ?_|(refine s_norm ?_;try simp only [wsN,wsI,rmv,rng,X.ev,lkp,peel,cond_true,cond_false,nbeq,Nat.reduceBEq,Nat.reduceSub,Nat.reduceAdd,Nat.zero_add,Nat.sub_zero,Nat.sub_self,List.length_cons,List.length_nil,List.length_append,List.cons_append,List.nil_append,List.append_nil])|(refine s_take fun K hK => ?_)|(refine s_cons (fun K hK => ?_) ?_)|exact s_tnil|refine s_br ?_|refine s_done ?_|refine s_seq fun K hK => ?_|refine s_region ?_|refine s_draw ?_|refine s_tree ?_|refine s_op fun K hK => ?_|refine s_opq fun K hK => ?_|refine s_ops ?_|refine s_endq ?_|simp only [go_sem,Int.reduceToNat,Int.reduceEq,Nat.reduceAdd,Nat.reduceBEq,Nat.reduceLeDiff,Nat.reduceLT,Int.reduceLT,Int.reduceLE,Int.reduceNeg,reduceCtorEq,d0,dw]|(first|(refine hK _ ?_;clear hK K)|(clear hK K;refine hK _ ?_;clear hK K)|(clear hK K;clear hK K;refine hK _ ?_;clear hK K))|refine And.intro ?_ ?_|refine s_callh [] [0] (ih _ _ (by assumption)) rfl rfl (by first|trivial|exact ⟨rfl,trivial⟩) (by decide) rfl (by first|exact ⟨rfl,trivial⟩|simp [allK,mkB,inL]) ?_
        rintro r hs ⟨c,i5,h5,hc,hi5,rfl,rfl⟩
        have sc:=hc.small (by omega)
        obtain ⟨_,hdr⟩:=Dr.sl7 (n:=n) hd2 ha hc
        have c1:=seal1_ct a n c (by omega) (by omega)
        generalize sealT a n c = g at *
        simp only [Term.v_eq] at c1
        repeat' first|assumption|first|refine s_opt1 ?_|refine s_opt0 ?_|refine s_optq1 ?_|refine s_optq0 ?_|(refine s_norm ?_;try simp only [wsN,wsI,rmv,rng,X.ev,lkp,peel,cond_true,cond_false,nbeq,Nat.reduceBEq,Nat.reduceSub,Nat.reduceAdd,Nat.zero_add,Nat.sub_zero,Nat.sub_self,List.length_cons,List.length_nil,List.length_append,List.cons_append,List.nil_append,List.append_nil])|(refine s_take fun K hK => ?_)|(refine s_cons (fun K hK => ?_) ?_)|exact s_tnil|refine s_br ?_|refine s_done ?_|refine s_seq fun K hK => ?_|refine s_region ?_|refine s_draw ?_|refine s_tree ?_|refine s_op fun K hK => ?_|refine s_opq fun K hK => ?_|refine s_ops ?_|refine s_endq ?_|simp only [go_sem,Int.reduceToNat,Int.reduceEq,Nat.reduceAdd,Nat.reduceBEq,Nat.reduceLeDiff,Nat.reduceLT,Int.reduceLT,Int.reduceLE,Int.reduceNeg,reduceCtorEq,d0,dw]|(first|(refine hK _ ?_;clear hK K)|(clear hK K;refine hK _ ?_;clear hK K)|(clear hK K;clear hK K;refine hK _ ?_;clear hK K))|refine And.intro ?_ ?_|refine s_call c1 ?_
        all_goals first|(show PostH _ _ _ _ _ _;exact ⟨[],(g : Term).v,[curO b i5 h5],⟨g,i5,h5,hdr,hi5,rfl,rfl⟩,Nat.le_refl _,by simp [StLe,leT,leH,A.Le,A.LeL,O.Le,lkp,freeT,freeH,A.free,A.freeL,cond_true,cond_false,nbeq,nble,nblt,decide_true,decide_false,Nat.reduceLT,Nat.reduceBEq,true_and,and_true,List.length_cons,List.length_nil,true_implies,and_self,Bool.and_true,Bool.true_and,Bool.and_self,St.frzs],by simp [St.frzs,evRs,RV.ev,tupA,A.Le,A.LeL,lkp,Term.v_eq,op_mk,n_mk,s_mk,kids_mk,encs,Term.enc_eq,nble],rfl⟩)|(simp;done)
      · repeat' first|assumption|first|refine s_opt1 ?_|refine s_opt0 ?_|refine s_optq1 ?_|refine s_optq0 ?_|(refine s_norm ?_;try simp only [wsN,wsI,rmv,rng,X.ev,lkp,peel,cond_true,cond_false,nbeq,Nat.reduceBEq,Nat.reduceSub,Nat.reduceAdd,Nat.zero_add,Nat.sub_zero,Nat.sub_self,List.length_cons,List.length_nil,List.length_append,List.cons_append,List.nil_append,List.append_nil])|(refine s_take fun K hK => ?_)|(refine s_cons (fun K hK => ?_) ?_)|exact s_tnil|refine s_br ?_|refine s_done ?_|refine s_seq fun K hK => ?_|refine s_region ?_|refine s_draw ?_|refine s_tree ?_|refine s_op fun K hK => ?_|refine s_opq fun K hK => ?_|refine s_ops ?_|refine s_endq ?_|simp only [go_sem,Int.reduceToNat,Int.reduceEq,Nat.reduceAdd,Nat.reduceBEq,Nat.reduceLeDiff,Nat.reduceLT,Int.reduceLT,Int.reduceLE,Int.reduceNeg,reduceCtorEq,d0,dw]|(first|(refine hK _ ?_;clear hK K)|(clear hK K;refine hK _ ?_;clear hK K)|(clear hK K;clear hK K;refine hK _ ?_;clear hK K))|refine And.intro ?_ ?_|refine s_callh [] [0] (ih _ _ (by assumption)) rfl rfl (by first|trivial|exact ⟨rfl,trivial⟩) (by decide) rfl (by first|exact ⟨rfl,trivial⟩|simp [allK,mkB,inL]) ?_
        rintro r hs ⟨c,i4,h4,hc,hi4,rfl,rfl⟩
        have sc:=hc.small (by omega)
        have hdr:=Dr.two (op:=8) (.inr (.inr rfl)) ha hc
        have c1:=sign1_ct a c (by omega) (by omega)
        rw [rightOr_of (hdr.ok hd)] at c1
        generalize Term.mk 8 0 ⟨#[]⟩ [a,c] = g at *
        simp only [Term.v_eq] at c1
        repeat' first|assumption|first|refine s_opt1 ?_|refine s_opt0 ?_|refine s_optq1 ?_|refine s_optq0 ?_|(refine s_norm ?_;try simp only [wsN,wsI,rmv,rng,X.ev,lkp,peel,cond_true,cond_false,nbeq,Nat.reduceBEq,Nat.reduceSub,Nat.reduceAdd,Nat.zero_add,Nat.sub_zero,Nat.sub_self,List.length_cons,List.length_nil,List.length_append,List.cons_append,List.nil_append,List.append_nil])|(refine s_take fun K hK => ?_)|(refine s_cons (fun K hK => ?_) ?_)|exact s_tnil|refine s_br ?_|refine s_done ?_|refine s_seq fun K hK => ?_|refine s_region ?_|refine s_draw ?_|refine s_tree ?_|refine s_op fun K hK => ?_|refine s_opq fun K hK => ?_|refine s_ops ?_|refine s_endq ?_|simp only [go_sem,Int.reduceToNat,Int.reduceEq,Nat.reduceAdd,Nat.reduceBEq,Nat.reduceLeDiff,Nat.reduceLT,Int.reduceLT,Int.reduceLE,Int.reduceNeg,reduceCtorEq,d0,dw]|(first|(refine hK _ ?_;clear hK K)|(clear hK K;refine hK _ ?_;clear hK K)|(clear hK K;clear hK K;refine hK _ ?_;clear hK K))|refine And.intro ?_ ?_|refine s_call c1 ?_
        all_goals first|(show PostH _ _ _ _ _ _;exact ⟨[],(g : Term).v,[curO b i4 h4],⟨g,i4,h4,hdr,hi4,rfl,rfl⟩,Nat.le_refl _,by simp [StLe,leT,leH,A.Le,A.LeL,O.Le,lkp,freeT,freeH,A.free,A.freeL,cond_true,cond_false,nbeq,nble,nblt,decide_true,decide_false,Nat.reduceLT,Nat.reduceBEq,true_and,and_true,List.length_cons,List.length_nil,true_implies,and_self,Bool.and_true,Bool.true_and,Bool.and_self,St.frzs],by simp [St.frzs,evRs,RV.ev,tupA,A.Le,A.LeL,lkp,Term.v_eq,op_mk,n_mk,s_mk,kids_mk,encs,Term.enc_eq,nble],rfl⟩)|(simp;done)
      · repeat' first|assumption|first|refine s_opt1 ?_|refine s_opt0 ?_|refine s_optq1 ?_|refine s_optq0 ?_|(refine s_norm ?_;try simp only [wsN,wsI,rmv,rng,X.ev,lkp,peel,cond_true,cond_false,nbeq,Nat.reduceBEq,Nat.reduceSub,Nat.reduceAdd,Nat.zero_add,Nat.sub_zero,Nat.sub_self,List.length_cons,List.length_nil,List.length_append,List.cons_append,List.nil_append,List.append_nil])|(refine s_take fun K hK => ?_)|(refine s_cons (fun K hK => ?_) ?_)|exact s_tnil|refine s_br ?_|refine s_done ?_|refine s_seq fun K hK => ?_|refine s_region ?_|refine s_draw ?_|refine s_tree ?_|refine s_op fun K hK => ?_|refine s_opq fun K hK => ?_|refine s_ops ?_|refine s_endq ?_|simp only [go_sem,Int.reduceToNat,Int.reduceEq,Nat.reduceAdd,Nat.reduceBEq,Nat.reduceLeDiff,Nat.reduceLT,Int.reduceLT,Int.reduceLE,Int.reduceNeg,reduceCtorEq,d0,dw]|(first|(refine hK _ ?_;clear hK K)|(clear hK K;refine hK _ ?_;clear hK K)|(clear hK K;clear hK K;refine hK _ ?_;clear hK K))|refine And.intro ?_ ?_|refine s_callh [] [0] (ih _ _ (by assumption)) rfl rfl (by first|trivial|exact ⟨rfl,trivial⟩) (by decide) rfl (by first|exact ⟨rfl,trivial⟩|simp [allK,mkB,inL]) ?_
        rintro r hs ⟨c,i4,h4,hc,hi4,rfl,rfl⟩
        have sc:=hc.small (by omega)
        have hdr:=Dr.two (op:=3) (.inl rfl) ha hc
        have c1:=pair1_ct a c (by omega) (by omega)
        rw [rightOr_of (hdr.ok hd)] at c1
        generalize Term.mk 3 0 ⟨#[]⟩ [a,c] = g at *
        simp only [Term.v_eq] at c1
        repeat' first|assumption|first|refine s_opt1 ?_|refine s_opt0 ?_|refine s_optq1 ?_|refine s_optq0 ?_|(refine s_norm ?_;try simp only [wsN,wsI,rmv,rng,X.ev,lkp,peel,cond_true,cond_false,nbeq,Nat.reduceBEq,Nat.reduceSub,Nat.reduceAdd,Nat.zero_add,Nat.sub_zero,Nat.sub_self,List.length_cons,List.length_nil,List.length_append,List.cons_append,List.nil_append,List.append_nil])|(refine s_take fun K hK => ?_)|(refine s_cons (fun K hK => ?_) ?_)|exact s_tnil|refine s_br ?_|refine s_done ?_|refine s_seq fun K hK => ?_|refine s_region ?_|refine s_draw ?_|refine s_tree ?_|refine s_op fun K hK => ?_|refine s_opq fun K hK => ?_|refine s_ops ?_|refine s_endq ?_|simp only [go_sem,Int.reduceToNat,Int.reduceEq,Nat.reduceAdd,Nat.reduceBEq,Nat.reduceLeDiff,Nat.reduceLT,Int.reduceLT,Int.reduceLE,Int.reduceNeg,reduceCtorEq,d0,dw]|(first|(refine hK _ ?_;clear hK K)|(clear hK K;refine hK _ ?_;clear hK K)|(clear hK K;clear hK K;refine hK _ ?_;clear hK K))|refine And.intro ?_ ?_|refine s_call c1 ?_
        all_goals first|(show PostH _ _ _ _ _ _;exact ⟨[],(g : Term).v,[curO b i4 h4],⟨g,i4,h4,hdr,hi4,rfl,rfl⟩,Nat.le_refl _,by simp [StLe,leT,leH,A.Le,A.LeL,O.Le,lkp,freeT,freeH,A.free,A.freeL,cond_true,cond_false,nbeq,nble,nblt,decide_true,decide_false,Nat.reduceLT,Nat.reduceBEq,true_and,and_true,List.length_cons,List.length_nil,true_implies,and_self,Bool.and_true,Bool.true_and,Bool.and_self,St.frzs],by simp [St.frzs,evRs,RV.ev,tupA,A.Le,A.LeL,lkp,Term.v_eq,op_mk,n_mk,s_mk,kids_mk,encs,Term.enc_eq,nble],rfl⟩)|(simp;done)
      · repeat' first|assumption|first|refine s_opt1 ?_|refine s_opt0 ?_|refine s_optq1 ?_|refine s_optq0 ?_|(refine s_norm ?_;try simp only [wsN,wsI,rmv,rng,X.ev,lkp,peel,cond_true,cond_false,nbeq,Nat.reduceBEq,Nat.reduceSub,Nat.reduceAdd,Nat.zero_add,Nat.sub_zero,Nat.sub_self,List.length_cons,List.length_nil,List.length_append,List.cons_append,List.nil_append,List.append_nil])|(refine s_take fun K hK => ?_)|(refine s_cons (fun K hK => ?_) ?_)|exact s_tnil|refine s_br ?_|refine s_done ?_|refine s_seq fun K hK => ?_|refine s_region ?_|refine s_draw ?_|refine s_tree ?_|refine s_op fun K hK => ?_|refine s_opq fun K hK => ?_|refine s_ops ?_|refine s_endq ?_|simp only [go_sem,Int.reduceToNat,Int.reduceEq,Nat.reduceAdd,Nat.reduceBEq,Nat.reduceLeDiff,Nat.reduceLT,Int.reduceLT,Int.reduceLE,Int.reduceNeg,reduceCtorEq,d0,dw]|(first|(refine hK _ ?_;clear hK K)|(clear hK K;refine hK _ ?_;clear hK K)|(clear hK K;clear hK K;refine hK _ ?_;clear hK K))|refine And.intro ?_ ?_|refine s_callh [] [0] (ih _ _ (by assumption)) rfl rfl (by first|trivial|exact ⟨rfl,trivial⟩) (by decide) rfl (by first|exact ⟨rfl,trivial⟩|simp [allK,mkB,inL]) ?_
        rintro r hs ⟨c,i4,h4,hc,hi4,rfl,rfl⟩
        have sc:=hc.small (by omega)
        have hdr:=Dr.two (op:=3) (.inl rfl) ha hc
        have c1:=pair1_ct a c (by omega) (by omega)
        rw [rightOr_of (hdr.ok hd)] at c1
        generalize Term.mk 3 0 ⟨#[]⟩ [a,c] = g at *
        simp only [Term.v_eq] at c1
        repeat' first|assumption|first|refine s_opt1 ?_|refine s_opt0 ?_|refine s_optq1 ?_|refine s_optq0 ?_|(refine s_norm ?_;try simp only [wsN,wsI,rmv,rng,X.ev,lkp,peel,cond_true,cond_false,nbeq,Nat.reduceBEq,Nat.reduceSub,Nat.reduceAdd,Nat.zero_add,Nat.sub_zero,Nat.sub_self,List.length_cons,List.length_nil,List.length_append,List.cons_append,List.nil_append,List.append_nil])|(refine s_take fun K hK => ?_)|(refine s_cons (fun K hK => ?_) ?_)|exact s_tnil|refine s_br ?_|refine s_done ?_|refine s_seq fun K hK => ?_|refine s_region ?_|refine s_draw ?_|refine s_tree ?_|refine s_op fun K hK => ?_|refine s_opq fun K hK => ?_|refine s_ops ?_|refine s_endq ?_|simp only [go_sem,Int.reduceToNat,Int.reduceEq,Nat.reduceAdd,Nat.reduceBEq,Nat.reduceLeDiff,Nat.reduceLT,Int.reduceLT,Int.reduceLE,Int.reduceNeg,reduceCtorEq,d0,dw]|(first|(refine hK _ ?_;clear hK K)|(clear hK K;refine hK _ ?_;clear hK K)|(clear hK K;clear hK K;refine hK _ ?_;clear hK K))|refine And.intro ?_ ?_|refine s_call c1 ?_
        all_goals first|(show PostH _ _ _ _ _ _;exact ⟨[],(g : Term).v,[curO b i4 h4],⟨g,i4,h4,hdr,hi4,rfl,rfl⟩,Nat.le_refl _,by simp [StLe,leT,leH,A.Le,A.LeL,O.Le,lkp,freeT,freeH,A.free,A.freeL,cond_true,cond_false,nbeq,nble,nblt,decide_true,decide_false,Nat.reduceLT,Nat.reduceBEq,true_and,and_true,List.length_cons,List.length_nil,true_implies,and_self,Bool.and_true,Bool.true_and,Bool.and_self,St.frzs],by simp [St.frzs,evRs,RV.ev,tupA,A.Le,A.LeL,lkp,Term.v_eq,op_mk,n_mk,s_mk,kids_mk,encs,Term.enc_eq,nble],rfl⟩)|(simp;done)
end Go.Proofs.YtlddcimpdkcgeaaDoor
