/- Certificates, as data; which are right. -/
import Derived.Test.YtlddcimpdkcgeaaDoorD4
import Derived.Lib.IndexMore
import Derived.Test.YtlddcimpdkcgeaaDoorT3
import Derived.Test.YtlddcimpdkcgeaaDoorFns
import Derived.Test.YtlddcimpdkcgeaaDoorF7
import Derived.Test.YtlddcimpdkcgeaaDoorF1
import Derived.Test.YtlddcimpdkcgeaaDoorT2
set_option linter.unusedVariables false
set_option linter.unusedSimpArgs false
set_option maxRecDepth 20000
set_option maxHeartbeats 4000000
namespace Go.Proofs.YtlddcimpdkcgeaaDoor
open Go Go.RowKit Sym
attribute [local irreducible] awp aops aopsQ gop gopQ gopO gopOQ gopV gopT awpN awpT awpTs ACall after

structure Cert where
  host : ByteArray
  pub : Term
  til : Int
@[reducible] def Cert.v (c : Cert) : A:=.agg [.d false (.str c.host),.d false (.int .i64 c.pub.op),.d false (.int .i64 c.pub.n),.d false (.str c.pub.s),.d false (.sl (encs c.pub.kids)),.d false (.int .i64 c.til)]
theorem Cert.v_eq (c : Cert) : c.v = .agg [.d false (.str c.host),.d false (.int .i64 c.pub.op),.d false (.int .i64 c.pub.n),.d false (.str c.pub.s),.d false (.sl (encs c.pub.kids)),.d false (.int .i64 c.til)]:=rfl
def Cert.enc (c : Cert) : List D:=[.str c.host,.int .i64 c.pub.op,.int .i64 c.pub.n,.str c.pub.s,.sl (encs c.pub.kids),.int .i64 c.til]
def Cert.cnt (c : Cert) : Nat:=c.host.size + c.pub.cnt
def eqC (a b : Cert) : Bool:=beqS a.host b.host && (eqT a.pub b.pub && decide (a.til = b.til))
theorem lftc_no {n : Nat} {l : Int} (h : ¬ (n : Int) ≤ l) : lft n l = -1:=if_neg h
theorem lftc_go {n : Nat} {l : Int} (h : (n : Int) ≤ l) : lft n l = l - n:=if_pos h
theorem eqC_refl (c : Cert) : eqC c c = true:=by simp [eqC,beqS_refl,eqT_refl]
theorem szCert_ct (c : Cert) (left : Int) (h0 : 0 ≤ left) (h1 : left ≤ 1048576) : Ct Tryd.prog 66 [c.v,.d false (.int .i64 left)] (.d true (.int .i64 (lft c.cnt left))):=by
  refine ok66.ct mo Tryd.func66 (by simp) rfl fun hok => ?_
  have hs : c.host.size ≤ 4611686018427387904:=by simp only [A.OkL,A.Ok,D.Ok] at hok;exact hok.1.1
  have hw0 : wrap64 (left - (c.host.size : Int)) = left - c.host.size:=w64 (by omega) (by omega)
  unfold ac66
  simp only [Cert.v_eq]
  by_cases hb : left - (c.host.size : Int) < 0
  · have d0 : decide (left - (c.host.size : Int) < 0) = true:=decide_eq_true hb
    have hr : lft c.cnt left = -1:=lftc_no (by unfold Cert.cnt;omega)
    rw [hr]
    repeat' first|first|refine s_opt1 ?_|refine s_opt0 ?_|refine s_optq1 ?_|refine s_optq0 ?_|(refine s_norm ?_;try simp only [wsN,wsI,rmv,rng,X.ev,lkp,peel,cond_true,cond_false,nbeq,Nat.reduceBEq,Nat.reduceSub,Nat.reduceAdd,Nat.zero_add,Nat.sub_zero,Nat.sub_self,List.length_cons,List.length_nil,List.length_append,List.cons_append,List.nil_append,List.append_nil])|(refine s_take fun K hK => ?_)|(refine s_cons (fun K hK => ?_) ?_)|exact s_tnil|refine s_br ?_|refine s_done ?_|refine s_seq fun K hK => ?_|refine s_region ?_|refine s_draw ?_|refine s_tree ?_|refine s_op fun K hK => ?_|refine s_opq fun K hK => ?_|refine s_ops ?_|refine s_endq ?_|simp only [go_sem,Int.reduceToNat,Int.reduceEq,Nat.reduceAdd,Nat.reduceBEq,Nat.reduceLeDiff,Nat.reduceLT,Int.reduceLT,Int.reduceLE,Int.reduceNeg,reduceCtorEq,hw0,d0]|(first|(refine hK _ ?_;clear hK K)|(clear hK K;refine hK _ ?_;clear hK K)|(clear hK K;clear hK K;refine hK _ ?_;clear hK K))|refine And.intro ?_ ?_
    all_goals first|(simp [go_sem,tids,A.tid,A.tid.go,List.cons_append,frzT,St.frz,A.sub,A.subL,O.sub,subT,subH,frzY,frzZ,Post,aret,evRs,RV.ev,tupA,A.Le,A.LeL,lkp,St.frzs,St.frz,A.ids,A.idsL,cond_true,cond_false,nbeq,nble,decide_true,decide_false,Nat.reduceLeDiff,Nat.reduceBEq,Nat.reduceAdd,beq_self_eq_true,true_and,and_true,true_implies,List.append_nil,List.nil_append,List.getElem?_cons_zero,List.getElem?_cons_succ,List.length_cons,List.length_nil,List.drop_zero,List.take_succ_cons,List.take_zero,and_self];done)|skip
  · have d0 : decide (left - (c.host.size : Int) < 0) = false:=decide_eq_false hb
    have hc:=szTerm_ct c.pub (left - c.host.size) (by omega) (by omega)
    simp only [Term.v_eq] at hc
    by_cases hd : (c.pub.cnt : Int) ≤ left - c.host.size
    · have he : lft c.pub.cnt (left - c.host.size) = left - c.host.size - c.pub.cnt:=if_pos hd
      have d1 : decide (left - (c.host.size : Int) - (c.pub.cnt : Int) < 0) = false:=decide_eq_false (by omega)
      have hr : lft c.cnt left = left - c.host.size - c.pub.cnt:=by rw [lftc_go (by unfold Cert.cnt;omega)];unfold Cert.cnt;omega
      rw [he] at hc
      rw [hr]
      repeat' first|first|refine s_opt1 ?_|refine s_opt0 ?_|refine s_optq1 ?_|refine s_optq0 ?_|(refine s_norm ?_;try simp only [wsN,wsI,rmv,rng,X.ev,lkp,peel,cond_true,cond_false,nbeq,Nat.reduceBEq,Nat.reduceSub,Nat.reduceAdd,Nat.zero_add,Nat.sub_zero,Nat.sub_self,List.length_cons,List.length_nil,List.length_append,List.cons_append,List.nil_append,List.append_nil])|(refine s_take fun K hK => ?_)|(refine s_cons (fun K hK => ?_) ?_)|exact s_tnil|refine s_br ?_|refine s_done ?_|refine s_seq fun K hK => ?_|refine s_region ?_|refine s_draw ?_|refine s_tree ?_|refine s_op fun K hK => ?_|refine s_opq fun K hK => ?_|refine s_ops ?_|refine s_endq ?_|simp only [go_sem,Int.reduceToNat,Int.reduceEq,Nat.reduceAdd,Nat.reduceBEq,Nat.reduceLeDiff,Nat.reduceLT,Int.reduceLT,Int.reduceLE,Int.reduceNeg,reduceCtorEq,hw0,d0,d1]|(first|(refine hK _ ?_;clear hK K)|(clear hK K;refine hK _ ?_;clear hK K)|(clear hK K;clear hK K;refine hK _ ?_;clear hK K))|refine And.intro ?_ ?_|refine s_call hc ?_
      all_goals first|(simp [go_sem,tids,A.tid,A.tid.go,List.cons_append,frzT,St.frz,A.sub,A.subL,O.sub,subT,subH,frzY,frzZ,Post,aret,evRs,RV.ev,tupA,A.Le,A.LeL,lkp,St.frzs,St.frz,A.ids,A.idsL,cond_true,cond_false,nbeq,nble,decide_true,decide_false,Nat.reduceLeDiff,Nat.reduceBEq,Nat.reduceAdd,beq_self_eq_true,true_and,and_true,true_implies,List.append_nil,List.nil_append,List.getElem?_cons_zero,List.getElem?_cons_succ,List.length_cons,List.length_nil,List.drop_zero,List.take_succ_cons,List.take_zero,and_self];done)|skip
    · have he : lft c.pub.cnt (left - c.host.size) = -1:=if_neg hd
      have hr : lft c.cnt left = -1:=lftc_no (by unfold Cert.cnt;omega)
      rw [he] at hc
      rw [hr]
      repeat' first|first|refine s_opt1 ?_|refine s_opt0 ?_|refine s_optq1 ?_|refine s_optq0 ?_|(refine s_norm ?_;try simp only [wsN,wsI,rmv,rng,X.ev,lkp,peel,cond_true,cond_false,nbeq,Nat.reduceBEq,Nat.reduceSub,Nat.reduceAdd,Nat.zero_add,Nat.sub_zero,Nat.sub_self,List.length_cons,List.length_nil,List.length_append,List.cons_append,List.nil_append,List.append_nil])|(refine s_take fun K hK => ?_)|(refine s_cons (fun K hK => ?_) ?_)|exact s_tnil|refine s_br ?_|refine s_done ?_|refine s_seq fun K hK => ?_|refine s_region ?_|refine s_draw ?_|refine s_tree ?_|refine s_op fun K hK => ?_|refine s_opq fun K hK => ?_|refine s_ops ?_|refine s_endq ?_|simp only [go_sem,Int.reduceToNat,Int.reduceEq,Nat.reduceAdd,Nat.reduceBEq,Nat.reduceLeDiff,Nat.reduceLT,Int.reduceLT,Int.reduceLE,Int.reduceNeg,reduceCtorEq,hw0,d0,show decide ((-1 : Int) < 0) = true from rfl]|(first|(refine hK _ ?_;clear hK K)|(clear hK K;refine hK _ ?_;clear hK K)|(clear hK K;clear hK K;refine hK _ ?_;clear hK K))|refine And.intro ?_ ?_|refine s_call hc ?_
      all_goals first|(simp [go_sem,tids,A.tid,A.tid.go,List.cons_append,frzT,St.frz,A.sub,A.subL,O.sub,subT,subH,frzY,frzZ,Post,aret,evRs,RV.ev,tupA,A.Le,A.LeL,lkp,St.frzs,St.frz,A.ids,A.idsL,cond_true,cond_false,nbeq,nble,decide_true,decide_false,Nat.reduceLeDiff,Nat.reduceBEq,Nat.reduceAdd,beq_self_eq_true,true_and,and_true,true_implies,List.append_nil,List.nil_append,List.getElem?_cons_zero,List.getElem?_cons_succ,List.length_cons,List.length_nil,List.drop_zero,List.take_succ_cons,List.take_zero,and_self];done)|skip
theorem eqCert_ct (a b : Cert) : Ct Tryd.prog 71 [a.v,b.v] (.d true (.bool (eqC a b))):=by
  have hc:=eqTerm_ct a.pub b.pub
  refine ok71.ct mo Tryd.func71 (by simp) rfl fun hok => ?_
  unfold ac71 eqC
  simp only [Cert.v_eq,Term.v_eq] at *
  cases h1 : beqS a.host b.host with
  | false =>
    repeat' first|assumption|first|refine s_opt1 ?_|refine s_opt0 ?_|refine s_optq1 ?_|refine s_optq0 ?_|(refine s_norm ?_;try simp only [wsN,wsI,rmv,rng,X.ev,lkp,peel,cond_true,cond_false,nbeq,Nat.reduceBEq,Nat.reduceSub,Nat.reduceAdd,Nat.zero_add,Nat.sub_zero,Nat.sub_self,List.length_cons,List.length_nil,List.length_append,List.cons_append,List.nil_append,List.append_nil])|(refine s_take fun K hK => ?_)|(refine s_cons (fun K hK => ?_) ?_)|exact s_tnil|refine s_br ?_|refine s_done ?_|refine s_seq fun K hK => ?_|refine s_region ?_|refine s_draw ?_|refine s_tree ?_|refine s_op fun K hK => ?_|refine s_opq fun K hK => ?_|refine s_ops ?_|refine s_endq ?_|simp only [go_sem,Int.reduceToNat,Int.reduceEq,Nat.reduceAdd,Nat.reduceBEq,Nat.reduceLeDiff,Nat.reduceLT,Int.reduceLT,Int.reduceLE,Int.reduceNeg,reduceCtorEq,h1]|(first|(refine hK _ ?_;clear hK K)|(clear hK K;refine hK _ ?_;clear hK K)|(clear hK K;clear hK K;refine hK _ ?_;clear hK K))|refine And.intro ?_ ?_
    all_goals first|(simp [go_sem,tids,A.tid,A.tid.go,List.cons_append,frzT,St.frz,A.sub,A.subL,O.sub,subT,subH,frzY,frzZ,Post,aret,evRs,RV.ev,tupA,A.Le,A.LeL,lkp,St.frzs,St.frz,A.ids,A.idsL,cond_true,cond_false,nbeq,nble,decide_true,decide_false,Nat.reduceLeDiff,Nat.reduceBEq,Nat.reduceAdd,beq_self_eq_true,true_and,and_true,true_implies,List.append_nil,List.nil_append,List.getElem?_cons_zero,List.getElem?_cons_succ,List.length_cons,List.length_nil,List.drop_zero,List.take_succ_cons,List.take_zero,and_self];done)|(simp;done)|skip
  | true =>
    cases h2 : eqT a.pub b.pub with
    | false =>
      rw [h2] at hc
      repeat' first|assumption|first|refine s_opt1 ?_|refine s_opt0 ?_|refine s_optq1 ?_|refine s_optq0 ?_|(refine s_norm ?_;try simp only [wsN,wsI,rmv,rng,X.ev,lkp,peel,cond_true,cond_false,nbeq,Nat.reduceBEq,Nat.reduceSub,Nat.reduceAdd,Nat.zero_add,Nat.sub_zero,Nat.sub_self,List.length_cons,List.length_nil,List.length_append,List.cons_append,List.nil_append,List.append_nil])|(refine s_take fun K hK => ?_)|(refine s_cons (fun K hK => ?_) ?_)|exact s_tnil|refine s_br ?_|refine s_done ?_|refine s_seq fun K hK => ?_|refine s_region ?_|refine s_draw ?_|refine s_tree ?_|refine s_op fun K hK => ?_|refine s_opq fun K hK => ?_|refine s_ops ?_|refine s_endq ?_|simp only [go_sem,Int.reduceToNat,Int.reduceEq,Nat.reduceAdd,Nat.reduceBEq,Nat.reduceLeDiff,Nat.reduceLT,Int.reduceLT,Int.reduceLE,Int.reduceNeg,reduceCtorEq,h1]|(first|(refine hK _ ?_;clear hK K)|(clear hK K;refine hK _ ?_;clear hK K)|(clear hK K;clear hK K;refine hK _ ?_;clear hK K))|refine And.intro ?_ ?_|refine s_call hc ?_
      all_goals first|(simp [go_sem,tids,A.tid,A.tid.go,List.cons_append,frzT,St.frz,A.sub,A.subL,O.sub,subT,subH,frzY,frzZ,Post,aret,evRs,RV.ev,tupA,A.Le,A.LeL,lkp,St.frzs,St.frz,A.ids,A.idsL,cond_true,cond_false,nbeq,nble,decide_true,decide_false,Nat.reduceLeDiff,Nat.reduceBEq,Nat.reduceAdd,beq_self_eq_true,true_and,and_true,true_implies,List.append_nil,List.nil_append,List.getElem?_cons_zero,List.getElem?_cons_succ,List.length_cons,List.length_nil,List.drop_zero,List.take_succ_cons,List.take_zero,and_self];done)|(simp;done)|skip
    | true =>
      rw [h2] at hc
      cases h3 : decide (a.til = b.til) with
      | false =>
        repeat' first|assumption|first|refine s_opt1 ?_|refine s_opt0 ?_|refine s_optq1 ?_|refine s_optq0 ?_|(refine s_norm ?_;try simp only [wsN,wsI,rmv,rng,X.ev,lkp,peel,cond_true,cond_false,nbeq,Nat.reduceBEq,Nat.reduceSub,Nat.reduceAdd,Nat.zero_add,Nat.sub_zero,Nat.sub_self,List.length_cons,List.length_nil,List.length_append,List.cons_append,List.nil_append,List.append_nil])|(refine s_take fun K hK => ?_)|(refine s_cons (fun K hK => ?_) ?_)|exact s_tnil|refine s_br ?_|refine s_done ?_|refine s_seq fun K hK => ?_|refine s_region ?_|refine s_draw ?_|refine s_tree ?_|refine s_op fun K hK => ?_|refine s_opq fun K hK => ?_|refine s_ops ?_|refine s_endq ?_|simp only [go_sem,Int.reduceToNat,Int.reduceEq,Nat.reduceAdd,Nat.reduceBEq,Nat.reduceLeDiff,Nat.reduceLT,Int.reduceLT,Int.reduceLE,Int.reduceNeg,reduceCtorEq,h1,h3]|(first|(refine hK _ ?_;clear hK K)|(clear hK K;refine hK _ ?_;clear hK K)|(clear hK K;clear hK K;refine hK _ ?_;clear hK K))|refine And.intro ?_ ?_|refine s_call hc ?_
        all_goals first|(simp [go_sem,tids,A.tid,A.tid.go,List.cons_append,frzT,St.frz,A.sub,A.subL,O.sub,subT,subH,frzY,frzZ,Post,aret,evRs,RV.ev,tupA,A.Le,A.LeL,lkp,St.frzs,St.frz,A.ids,A.idsL,cond_true,cond_false,nbeq,nble,decide_true,decide_false,Nat.reduceLeDiff,Nat.reduceBEq,Nat.reduceAdd,beq_self_eq_true,true_and,and_true,true_implies,List.append_nil,List.nil_append,List.getElem?_cons_zero,List.getElem?_cons_succ,List.length_cons,List.length_nil,List.drop_zero,List.take_succ_cons,List.take_zero,and_self];done)|(simp;done)|skip
      | true =>
        repeat' first|assumption|first|refine s_opt1 ?_|refine s_opt0 ?_|refine s_optq1 ?_|refine s_optq0 ?_|(refine s_norm ?_;try simp only [wsN,wsI,rmv,rng,X.ev,lkp,peel,cond_true,cond_false,nbeq,Nat.reduceBEq,Nat.reduceSub,Nat.reduceAdd,Nat.zero_add,Nat.sub_zero,Nat.sub_self,List.length_cons,List.length_nil,List.length_append,List.cons_append,List.nil_append,List.append_nil])|(refine s_take fun K hK => ?_)|(refine s_cons (fun K hK => ?_) ?_)|exact s_tnil|refine s_br ?_|refine s_done ?_|refine s_seq fun K hK => ?_|refine s_region ?_|refine s_draw ?_|refine s_tree ?_|refine s_op fun K hK => ?_|refine s_opq fun K hK => ?_|refine s_ops ?_|refine s_endq ?_|simp only [go_sem,Int.reduceToNat,Int.reduceEq,Nat.reduceAdd,Nat.reduceBEq,Nat.reduceLeDiff,Nat.reduceLT,Int.reduceLT,Int.reduceLE,Int.reduceNeg,reduceCtorEq,h1,h3]|(first|(refine hK _ ?_;clear hK K)|(clear hK K;refine hK _ ?_;clear hK K)|(clear hK K;clear hK K;refine hK _ ?_;clear hK K))|refine And.intro ?_ ?_|refine s_call hc ?_
        all_goals first|(simp [go_sem,tids,A.tid,A.tid.go,List.cons_append,frzT,St.frz,A.sub,A.subL,O.sub,subT,subH,frzY,frzZ,Post,aret,evRs,RV.ev,tupA,A.Le,A.LeL,lkp,St.frzs,St.frz,A.ids,A.idsL,cond_true,cond_false,nbeq,nble,decide_true,decide_false,Nat.reduceLeDiff,Nat.reduceBEq,Nat.reduceAdd,beq_self_eq_true,true_and,and_true,true_implies,List.append_nil,List.nil_append,List.getElem?_cons_zero,List.getElem?_cons_succ,List.length_cons,List.length_nil,List.drop_zero,List.take_succ_cons,List.take_zero,and_self];done)|(simp;done)|skip
theorem dec_cert {H : Type} (enc : TypeId × Value → H) (w : World) (n : Nat) : DecAt enc Tryd.prog w 69 n (fun ds => ∃ c : Cert,ds = c.enc):=by
  refine (dec_struct (l:=[(9,0,1),(67,1,4),(3,5,1)]) (by kernel_rfl) (qs:=[(1,fun ds : List D => ∃ s,ds = [.str s]),(4,fun ds : List D => ∃ t : Term,ds = t.enc),(1,fun ds : List D => ∃ m,ds = [.int .i64 m])]) (by kernel_rfl) (fun m hm => ?_)).mono ?_
  · refine ⟨rfl,rfl,(dec_str (by kernel_rfl)).mono ?_,rfl,rfl,(dec_term enc w m).mono ?_,rfl,rfl,(dec_int (k:=.i64) (by kernel_rfl)).mono ?_,trivial⟩
    · rintro ds ⟨k,rfl⟩;exact ⟨rfl,k,rfl⟩
    · rintro ds ⟨t,rfl⟩;exact ⟨enc_length t,t,rfl⟩
    · rintro ds ⟨k,rfl⟩;exact ⟨rfl,k,rfl⟩
  · rintro ds ⟨_,d1,rfl,_,⟨a,rfl⟩,_,d2,rfl,_,⟨t,rfl⟩,_,d3,rfl,_,⟨e,rfl⟩,rfl⟩
    exact ⟨⟨a,t,e⟩,by simp [Cert.enc,Term.enc_eq]⟩
theorem arg_cert {H : Type} (enc : TypeId × Value → H) : ArgAt enc Tryd.prog 69 (fun x => ∃ t : Cert,x = t.v):=by
  intro w b0 v d ps hv hd hw
  obtain ⟨x,hx,ds,rfl,t,rfl⟩:=arg_struct (enc:=enc) (l:=[(9,0,1),(67,1,4),(3,5,1)]) (by kernel_rfl) (fun w n => dec_cert enc w n) w b0 v d ps hv hd hw
  exact ⟨_,hx,t,by simp [Cert.enc]⟩
/-- A certificate that is right. -/
def certB (c : Cert) : Bool:=bif hostB c.host 2 then bif decide (c.pub.op = 4) then bif okT c.pub then betw c.til 0 100000 else false else false else false
theorem certOk1_ct (c : Cert) (h : c.cnt ≤ 1048576) : Ct Tryd.prog 123 [c.v] (.d true (.bool (certB c))):=by
  have h1:=host1_ct c.host (by unfold Cert.cnt at h;omega)
  have h2:=termOk1_ct c.pub
  have h3:=betw1_ct c.til 0 100000
  refine ok123.ct mo Tryd.func123 (by simp) rfl fun hok => ?_
  unfold ac123 certB
  simp only [Cert.v_eq,Term.v_eq] at *
  generalize betw c.til 0 100000 = bt at *
  cases hb1 : hostB c.host 2 with
  | false =>
    rw [hb1] at h1
    repeat' first|assumption|first|refine s_opt1 ?_|refine s_opt0 ?_|refine s_optq1 ?_|refine s_optq0 ?_|(refine s_norm ?_;try simp only [wsN,wsI,rmv,rng,X.ev,lkp,peel,cond_true,cond_false,nbeq,Nat.reduceBEq,Nat.reduceSub,Nat.reduceAdd,Nat.zero_add,Nat.sub_zero,Nat.sub_self,List.length_cons,List.length_nil,List.length_append,List.cons_append,List.nil_append,List.append_nil])|(refine s_take fun K hK => ?_)|(refine s_cons (fun K hK => ?_) ?_)|exact s_tnil|refine s_br ?_|refine s_done ?_|refine s_seq fun K hK => ?_|refine s_region ?_|refine s_draw ?_|refine s_tree ?_|refine s_op fun K hK => ?_|refine s_opq fun K hK => ?_|refine s_ops ?_|refine s_endq ?_|simp only [go_sem,Int.reduceToNat,Int.reduceEq,Nat.reduceAdd,Nat.reduceBEq,Nat.reduceLeDiff,Nat.reduceLT,Int.reduceLT,Int.reduceLE,Int.reduceNeg,reduceCtorEq]|(first|(refine hK _ ?_;clear hK K)|(clear hK K;refine hK _ ?_;clear hK K)|(clear hK K;clear hK K;refine hK _ ?_;clear hK K))|refine And.intro ?_ ?_|refine s_call h1 ?_
    all_goals first|(simp [go_sem,tids,A.tid,A.tid.go,List.cons_append,frzT,St.frz,A.sub,A.subL,O.sub,subT,subH,frzY,frzZ,Post,aret,evRs,RV.ev,tupA,A.Le,A.LeL,lkp,St.frzs,St.frz,A.ids,A.idsL,cond_true,cond_false,nbeq,nble,decide_true,decide_false,Nat.reduceLeDiff,Nat.reduceBEq,Nat.reduceAdd,beq_self_eq_true,true_and,and_true,true_implies,List.append_nil,List.nil_append,List.getElem?_cons_zero,List.getElem?_cons_succ,List.length_cons,List.length_nil,List.drop_zero,List.take_succ_cons,List.take_zero,and_self];done)|(simp;done)|skip
  | true =>
    rw [hb1] at h1
    cases hb2 : decide (c.pub.op = 4) with
    | false =>
      repeat' first|assumption|first|refine s_opt1 ?_|refine s_opt0 ?_|refine s_optq1 ?_|refine s_optq0 ?_|(refine s_norm ?_;try simp only [wsN,wsI,rmv,rng,X.ev,lkp,peel,cond_true,cond_false,nbeq,Nat.reduceBEq,Nat.reduceSub,Nat.reduceAdd,Nat.zero_add,Nat.sub_zero,Nat.sub_self,List.length_cons,List.length_nil,List.length_append,List.cons_append,List.nil_append,List.append_nil])|(refine s_take fun K hK => ?_)|(refine s_cons (fun K hK => ?_) ?_)|exact s_tnil|refine s_br ?_|refine s_done ?_|refine s_seq fun K hK => ?_|refine s_region ?_|refine s_draw ?_|refine s_tree ?_|refine s_op fun K hK => ?_|refine s_opq fun K hK => ?_|refine s_ops ?_|refine s_endq ?_|simp only [go_sem,Int.reduceToNat,Int.reduceEq,Nat.reduceAdd,Nat.reduceBEq,Nat.reduceLeDiff,Nat.reduceLT,Int.reduceLT,Int.reduceLE,Int.reduceNeg,reduceCtorEq,hb2]|(first|(refine hK _ ?_;clear hK K)|(clear hK K;refine hK _ ?_;clear hK K)|(clear hK K;clear hK K;refine hK _ ?_;clear hK K))|refine And.intro ?_ ?_|refine s_call h1 ?_
      all_goals first|(simp [go_sem,tids,A.tid,A.tid.go,List.cons_append,frzT,St.frz,A.sub,A.subL,O.sub,subT,subH,frzY,frzZ,Post,aret,evRs,RV.ev,tupA,A.Le,A.LeL,lkp,St.frzs,St.frz,A.ids,A.idsL,cond_true,cond_false,nbeq,nble,decide_true,decide_false,Nat.reduceLeDiff,Nat.reduceBEq,Nat.reduceAdd,beq_self_eq_true,true_and,and_true,true_implies,List.append_nil,List.nil_append,List.getElem?_cons_zero,List.getElem?_cons_succ,List.length_cons,List.length_nil,List.drop_zero,List.take_succ_cons,List.take_zero,and_self];done)|(simp;done)|skip
    | true =>
      cases hb3 : okT c.pub with
      | false =>
        rw [hb3] at h2
        repeat' first|assumption|first|refine s_opt1 ?_|refine s_opt0 ?_|refine s_optq1 ?_|refine s_optq0 ?_|(refine s_norm ?_;try simp only [wsN,wsI,rmv,rng,X.ev,lkp,peel,cond_true,cond_false,nbeq,Nat.reduceBEq,Nat.reduceSub,Nat.reduceAdd,Nat.zero_add,Nat.sub_zero,Nat.sub_self,List.length_cons,List.length_nil,List.length_append,List.cons_append,List.nil_append,List.append_nil])|(refine s_take fun K hK => ?_)|(refine s_cons (fun K hK => ?_) ?_)|exact s_tnil|refine s_br ?_|refine s_done ?_|refine s_seq fun K hK => ?_|refine s_region ?_|refine s_draw ?_|refine s_tree ?_|refine s_op fun K hK => ?_|refine s_opq fun K hK => ?_|refine s_ops ?_|refine s_endq ?_|simp only [go_sem,Int.reduceToNat,Int.reduceEq,Nat.reduceAdd,Nat.reduceBEq,Nat.reduceLeDiff,Nat.reduceLT,Int.reduceLT,Int.reduceLE,Int.reduceNeg,reduceCtorEq,hb2]|(first|(refine hK _ ?_;clear hK K)|(clear hK K;refine hK _ ?_;clear hK K)|(clear hK K;clear hK K;refine hK _ ?_;clear hK K))|refine And.intro ?_ ?_|refine s_call h1 ?_|refine s_call h2 ?_
        all_goals first|(simp [go_sem,tids,A.tid,A.tid.go,List.cons_append,frzT,St.frz,A.sub,A.subL,O.sub,subT,subH,frzY,frzZ,Post,aret,evRs,RV.ev,tupA,A.Le,A.LeL,lkp,St.frzs,St.frz,A.ids,A.idsL,cond_true,cond_false,nbeq,nble,decide_true,decide_false,Nat.reduceLeDiff,Nat.reduceBEq,Nat.reduceAdd,beq_self_eq_true,true_and,and_true,true_implies,List.append_nil,List.nil_append,List.getElem?_cons_zero,List.getElem?_cons_succ,List.length_cons,List.length_nil,List.drop_zero,List.take_succ_cons,List.take_zero,and_self];done)|(simp;done)|skip
      | true =>
        rw [hb3] at h2
        repeat' first|assumption|first|refine s_opt1 ?_|refine s_opt0 ?_|refine s_optq1 ?_|refine s_optq0 ?_|(refine s_norm ?_;try simp only [wsN,wsI,rmv,rng,X.ev,lkp,peel,cond_true,cond_false,nbeq,Nat.reduceBEq,Nat.reduceSub,Nat.reduceAdd,Nat.zero_add,Nat.sub_zero,Nat.sub_self,List.length_cons,List.length_nil,List.length_append,List.cons_append,List.nil_append,List.append_nil])|(refine s_take fun K hK => ?_)|(refine s_cons (fun K hK => ?_) ?_)|exact s_tnil|refine s_br ?_|refine s_done ?_|refine s_seq fun K hK => ?_|refine s_region ?_|refine s_draw ?_|refine s_tree ?_|refine s_op fun K hK => ?_|refine s_opq fun K hK => ?_|refine s_ops ?_|refine s_endq ?_|simp only [go_sem,Int.reduceToNat,Int.reduceEq,Nat.reduceAdd,Nat.reduceBEq,Nat.reduceLeDiff,Nat.reduceLT,Int.reduceLT,Int.reduceLE,Int.reduceNeg,reduceCtorEq,hb2]|(first|(refine hK _ ?_;clear hK K)|(clear hK K;refine hK _ ?_;clear hK K)|(clear hK K;clear hK K;refine hK _ ?_;clear hK K))|refine And.intro ?_ ?_|refine s_call h1 ?_|refine s_call h2 ?_|refine s_call h3 ?_
        all_goals first|(simp [go_sem,tids,A.tid,A.tid.go,List.cons_append,frzT,St.frz,A.sub,A.subL,O.sub,subT,subH,frzY,frzZ,Post,aret,evRs,RV.ev,tupA,A.Le,A.LeL,lkp,St.frzs,St.frz,A.ids,A.idsL,cond_true,cond_false,nbeq,nble,decide_true,decide_false,Nat.reduceLeDiff,Nat.reduceBEq,Nat.reduceAdd,beq_self_eq_true,true_and,and_true,true_implies,List.append_nil,List.nil_append,List.getElem?_cons_zero,List.getElem?_cons_succ,List.length_cons,List.length_nil,List.drop_zero,List.take_succ_cons,List.take_zero,and_self];done)|(simp;done)|skip
theorem certOk2_ct (c : Cert) (h : c.cnt ≤ 1048576) : Ct Tryd.prog 126 [c.v] (.d true (.bool (certB c))):=by
  have h1:=host2_ct c.host (by unfold Cert.cnt at h;omega)
  have h2:=termOk2_ct c.pub
  have h3:=betw2_ct c.til 0 100000
  refine ok126.ct mo Tryd.func126 (by simp) rfl fun hok => ?_
  unfold ac126 certB
  simp only [Cert.v_eq,Term.v_eq] at *
  generalize betw c.til 0 100000 = bt at *
  cases hb1 : hostB c.host 2 with
  | false =>
    rw [hb1] at h1
    repeat' first|assumption|first|refine s_opt1 ?_|refine s_opt0 ?_|refine s_optq1 ?_|refine s_optq0 ?_|(refine s_norm ?_;try simp only [wsN,wsI,rmv,rng,X.ev,lkp,peel,cond_true,cond_false,nbeq,Nat.reduceBEq,Nat.reduceSub,Nat.reduceAdd,Nat.zero_add,Nat.sub_zero,Nat.sub_self,List.length_cons,List.length_nil,List.length_append,List.cons_append,List.nil_append,List.append_nil])|(refine s_take fun K hK => ?_)|(refine s_cons (fun K hK => ?_) ?_)|exact s_tnil|refine s_br ?_|refine s_done ?_|refine s_seq fun K hK => ?_|refine s_region ?_|refine s_draw ?_|refine s_tree ?_|refine s_op fun K hK => ?_|refine s_opq fun K hK => ?_|refine s_ops ?_|refine s_endq ?_|simp only [go_sem,Int.reduceToNat,Int.reduceEq,Nat.reduceAdd,Nat.reduceBEq,Nat.reduceLeDiff,Nat.reduceLT,Int.reduceLT,Int.reduceLE,Int.reduceNeg,reduceCtorEq]|(first|(refine hK _ ?_;clear hK K)|(clear hK K;refine hK _ ?_;clear hK K)|(clear hK K;clear hK K;refine hK _ ?_;clear hK K))|refine And.intro ?_ ?_|refine s_call h1 ?_
    all_goals first|(simp [go_sem,tids,A.tid,A.tid.go,List.cons_append,frzT,St.frz,A.sub,A.subL,O.sub,subT,subH,frzY,frzZ,Post,aret,evRs,RV.ev,tupA,A.Le,A.LeL,lkp,St.frzs,St.frz,A.ids,A.idsL,cond_true,cond_false,nbeq,nble,decide_true,decide_false,Nat.reduceLeDiff,Nat.reduceBEq,Nat.reduceAdd,beq_self_eq_true,true_and,and_true,true_implies,List.append_nil,List.nil_append,List.getElem?_cons_zero,List.getElem?_cons_succ,List.length_cons,List.length_nil,List.drop_zero,List.take_succ_cons,List.take_zero,and_self];done)|(simp;done)|skip
  | true =>
    rw [hb1] at h1
    cases hb2 : decide (c.pub.op = 4) with
    | false =>
      repeat' first|assumption|first|refine s_opt1 ?_|refine s_opt0 ?_|refine s_optq1 ?_|refine s_optq0 ?_|(refine s_norm ?_;try simp only [wsN,wsI,rmv,rng,X.ev,lkp,peel,cond_true,cond_false,nbeq,Nat.reduceBEq,Nat.reduceSub,Nat.reduceAdd,Nat.zero_add,Nat.sub_zero,Nat.sub_self,List.length_cons,List.length_nil,List.length_append,List.cons_append,List.nil_append,List.append_nil])|(refine s_take fun K hK => ?_)|(refine s_cons (fun K hK => ?_) ?_)|exact s_tnil|refine s_br ?_|refine s_done ?_|refine s_seq fun K hK => ?_|refine s_region ?_|refine s_draw ?_|refine s_tree ?_|refine s_op fun K hK => ?_|refine s_opq fun K hK => ?_|refine s_ops ?_|refine s_endq ?_|simp only [go_sem,Int.reduceToNat,Int.reduceEq,Nat.reduceAdd,Nat.reduceBEq,Nat.reduceLeDiff,Nat.reduceLT,Int.reduceLT,Int.reduceLE,Int.reduceNeg,reduceCtorEq,hb2]|(first|(refine hK _ ?_;clear hK K)|(clear hK K;refine hK _ ?_;clear hK K)|(clear hK K;clear hK K;refine hK _ ?_;clear hK K))|refine And.intro ?_ ?_|refine s_call h1 ?_
      all_goals first|(simp [go_sem,tids,A.tid,A.tid.go,List.cons_append,frzT,St.frz,A.sub,A.subL,O.sub,subT,subH,frzY,frzZ,Post,aret,evRs,RV.ev,tupA,A.Le,A.LeL,lkp,St.frzs,St.frz,A.ids,A.idsL,cond_true,cond_false,nbeq,nble,decide_true,decide_false,Nat.reduceLeDiff,Nat.reduceBEq,Nat.reduceAdd,beq_self_eq_true,true_and,and_true,true_implies,List.append_nil,List.nil_append,List.getElem?_cons_zero,List.getElem?_cons_succ,List.length_cons,List.length_nil,List.drop_zero,List.take_succ_cons,List.take_zero,and_self];done)|(simp;done)|skip
    | true =>
      cases hb3 : okT c.pub with
      | false =>
        rw [hb3] at h2
        repeat' first|assumption|first|refine s_opt1 ?_|refine s_opt0 ?_|refine s_optq1 ?_|refine s_optq0 ?_|(refine s_norm ?_;try simp only [wsN,wsI,rmv,rng,X.ev,lkp,peel,cond_true,cond_false,nbeq,Nat.reduceBEq,Nat.reduceSub,Nat.reduceAdd,Nat.zero_add,Nat.sub_zero,Nat.sub_self,List.length_cons,List.length_nil,List.length_append,List.cons_append,List.nil_append,List.append_nil])|(refine s_take fun K hK => ?_)|(refine s_cons (fun K hK => ?_) ?_)|exact s_tnil|refine s_br ?_|refine s_done ?_|refine s_seq fun K hK => ?_|refine s_region ?_|refine s_draw ?_|refine s_tree ?_|refine s_op fun K hK => ?_|refine s_opq fun K hK => ?_|refine s_ops ?_|refine s_endq ?_|simp only [go_sem,Int.reduceToNat,Int.reduceEq,Nat.reduceAdd,Nat.reduceBEq,Nat.reduceLeDiff,Nat.reduceLT,Int.reduceLT,Int.reduceLE,Int.reduceNeg,reduceCtorEq,hb2]|(first|(refine hK _ ?_;clear hK K)|(clear hK K;refine hK _ ?_;clear hK K)|(clear hK K;clear hK K;refine hK _ ?_;clear hK K))|refine And.intro ?_ ?_|refine s_call h1 ?_|refine s_call h2 ?_
        all_goals first|(simp [go_sem,tids,A.tid,A.tid.go,List.cons_append,frzT,St.frz,A.sub,A.subL,O.sub,subT,subH,frzY,frzZ,Post,aret,evRs,RV.ev,tupA,A.Le,A.LeL,lkp,St.frzs,St.frz,A.ids,A.idsL,cond_true,cond_false,nbeq,nble,decide_true,decide_false,Nat.reduceLeDiff,Nat.reduceBEq,Nat.reduceAdd,beq_self_eq_true,true_and,and_true,true_implies,List.append_nil,List.nil_append,List.getElem?_cons_zero,List.getElem?_cons_succ,List.length_cons,List.length_nil,List.drop_zero,List.take_succ_cons,List.take_zero,and_self];done)|(simp;done)|skip
      | true =>
        rw [hb3] at h2
        repeat' first|assumption|first|refine s_opt1 ?_|refine s_opt0 ?_|refine s_optq1 ?_|refine s_optq0 ?_|(refine s_norm ?_;try simp only [wsN,wsI,rmv,rng,X.ev,lkp,peel,cond_true,cond_false,nbeq,Nat.reduceBEq,Nat.reduceSub,Nat.reduceAdd,Nat.zero_add,Nat.sub_zero,Nat.sub_self,List.length_cons,List.length_nil,List.length_append,List.cons_append,List.nil_append,List.append_nil])|(refine s_take fun K hK => ?_)|(refine s_cons (fun K hK => ?_) ?_)|exact s_tnil|refine s_br ?_|refine s_done ?_|refine s_seq fun K hK => ?_|refine s_region ?_|refine s_draw ?_|refine s_tree ?_|refine s_op fun K hK => ?_|refine s_opq fun K hK => ?_|refine s_ops ?_|refine s_endq ?_|simp only [go_sem,Int.reduceToNat,Int.reduceEq,Nat.reduceAdd,Nat.reduceBEq,Nat.reduceLeDiff,Nat.reduceLT,Int.reduceLT,Int.reduceLE,Int.reduceNeg,reduceCtorEq,hb2]|(first|(refine hK _ ?_;clear hK K)|(clear hK K;refine hK _ ?_;clear hK K)|(clear hK K;clear hK K;refine hK _ ?_;clear hK K))|refine And.intro ?_ ?_|refine s_call h1 ?_|refine s_call h2 ?_|refine s_call h3 ?_
        all_goals first|(simp [go_sem,tids,A.tid,A.tid.go,List.cons_append,frzT,St.frz,A.sub,A.subL,O.sub,subT,subH,frzY,frzZ,Post,aret,evRs,RV.ev,tupA,A.Le,A.LeL,lkp,St.frzs,St.frz,A.ids,A.idsL,cond_true,cond_false,nbeq,nble,decide_true,decide_false,Nat.reduceLeDiff,Nat.reduceBEq,Nat.reduceAdd,beq_self_eq_true,true_and,and_true,true_implies,List.append_nil,List.nil_append,List.getElem?_cons_zero,List.getElem?_cons_succ,List.length_cons,List.length_nil,List.drop_zero,List.take_succ_cons,List.take_zero,and_self];done)|(simp;done)|skip
end Go.Proofs.YtlddcimpdkcgeaaDoor
