/- Functions, as code over abstract states. -/
import Derived.Test.YtlddcimpdkcgeaaDoorFnsA
set_option linter.unusedVariables false
set_option linter.unusedSimpArgs false
set_option maxRecDepth 100000
namespace Go.Proofs.YtlddcimpdkcgeaaDoor
open Go.RowKit Sym

/-! laws.toCert -/
/-! impl.CertTerm -/
/-! laws.eqTerm -/
/-! laws.eqCert -/
/-! laws.markCert -/
/-! laws.markTerm -/
/-! laws.heldTerm -/
/-! spec.l2Draw -/
def keep75 : Nat → List Nat
  | 0 => [0,1000000,1000001]
  | 1 => [0,3,1000000,1000001]
  | 2 => [0,3,4,1000000,1000001]
  | 3 => [0,3,4,9,1000000,1000001]
  | 4 => [0,3,4,1000000,1000001]
  | 5 => [0,3,4,1000000,1000001]
  | 6 => [2,1000000,1000001]
  | _ => []
def ac75 : AC:=.seq (.region [⟨some 2,none,.own 28 4⟩] [0,1000000,1000001]) (.seq (.region [⟨some 5,none,.bs 28 4 []⟩,⟨some 3,none,.mv (.t 5)⟩] [0,3,1000000,1000001]) (.seq (.seq (.region [⟨some 4,none,.mv (.c (.d true (.int .i64 0)))⟩] [0,3,4,1000000,1000001]) (.block 0 (.loop (.seq (.seq (.region [⟨some 6,none,.mv (.t 4)⟩,⟨some 7,none,.mv (.t 0)⟩,⟨some 8,none,.call (.c (.fn 98 [])) [.t 7,.c (.d true (.int .i64 6))]⟩,⟨some 9,none,.bin .lss (.t 6) (.t 8)⟩] [0,3,4,9,1000000,1000001]) (.cond (.t 9) (.skip) (.exit 0))) (.seq (.block 1 (.region [⟨some 12,none,.mv (.t 3)⟩,⟨some 13,none,.mv (.t 0)⟩,⟨some 14,none,.call (.c (.fn 95 [])) [.t 13]⟩,⟨some 15,none,.bs 28 4 [.t 14]⟩,⟨some 16,none,.app 28 4 56 (.t 12) (.t 15)⟩,⟨some 3,none,.mv (.t 16)⟩] [0,3,4,1000000,1000001])) (.region [⟨some 10,none,.mv (.t 4)⟩,⟨some 11,none,.bin .add (.t 10) (.c (.d true (.int .i64 1)))⟩,⟨some 4,none,.mv (.t 11)⟩] [0,3,4,1000000,1000001])))))) (.seq (.region [⟨some 17,none,.mv (.t 3)⟩,⟨some 2,none,.mv (.t 17)⟩] [2,1000000,1000001]) (.ret))))
theorem ok75 : FnOk Tryd.prog Tryd.f75 18 keep75 ac75 [.t 2]:=by
  refine ⟨?_,?_,?_,?_,?_⟩ <;> kernel_rfl

/-! spec.l1New -/
def keep76 : Nat → List Nat
  | 0 => [0]
  | 1 => [0,3]
  | 2 => [0,3,4]
  | 3 => [0,3,4,15]
  | 4 => [0,3,4]
  | 5 => [0,3,4]
  | 6 => [2]
  | _ => []
def ac76 : AC:=.seq (.region [⟨some 2,none,.mv (.c (.any))⟩] [0]) (.seq (.region [⟨some 5,none,.mv (.t 0)⟩,⟨some 6,none,.len (.t 5)⟩,⟨some 7,none,.bin .add (.c (.d true (.int .i64 22143))) (.t 6)⟩,⟨some 3,none,.mv (.t 7)⟩] [0,3]) (.seq (.seq (.region [⟨some 4,none,.mv (.c (.d true (.int .i64 0)))⟩] [0,3,4]) (.block 0 (.loop (.seq (.seq (.region [⟨some 8,none,.mv (.t 4)⟩,⟨some 9,none,.mv (.t 0)⟩,⟨some 10,none,.len (.t 9)⟩,⟨some 11,none,.bin .lss (.t 8) (.t 10)⟩,⟨some 12,none,.mv (.t 11)⟩,⟨some 13,some (12,true),.mv (.t 4)⟩,⟨some 14,some (12,true),.bin .lss (.t 13) (.c (.d true (.int .i64 4000)))⟩,⟨some 15,none,.pick (.t 12) (.t 14) (.c (.d true (.bool false)))⟩] [0,3,4,15]) (.cond (.t 15) (.skip) (.exit 0))) (.seq (.block 1 (.region [⟨some 18,none,.mv (.t 3)⟩,⟨some 19,none,.bin .mul (.t 18) (.c (.d true (.int .i64 131)))⟩,⟨some 20,none,.mv (.t 0)⟩,⟨some 21,none,.mv (.t 4)⟩,⟨some 22,none,.ia 1 (.t 20) (.t 21)⟩,⟨some 23,none,.ld none (.t 22)⟩,⟨some 24,none,.cvi .i64 (.t 23)⟩,⟨some 25,none,.bin .add (.t 19) (.t 24)⟩,⟨some 26,none,.bin .add (.t 25) (.c (.d true (.int .i64 7)))⟩,⟨some 27,none,.bin .and (.t 26) (.c (.d true (.int .i64 1073741823)))⟩,⟨some 3,none,.mv (.t 27)⟩] [0,3,4])) (.region [⟨some 16,none,.mv (.t 4)⟩,⟨some 17,none,.bin .add (.t 16) (.c (.d true (.int .i64 1)))⟩,⟨some 4,none,.mv (.t 17)⟩] [0,3,4])))))) (.seq (.region [⟨some 28,none,.mv (.t 0)⟩,⟨some 29,none,.mv (.t 3)⟩,⟨some 30,none,.bld [.nil,.d true (.int .i64 0),.d true (.int .i64 0)] [(0,1,.t 28),(2,1,.t 29)]⟩,⟨some 31,none,.box (.t 30)⟩,⟨some 2,none,.mv (.t 31)⟩] [2]) (.ret))))
theorem ok76 : FnOk Tryd.prog Tryd.f76 32 keep76 ac76 [.t 2]:=by
  refine ⟨?_,?_,?_,?_,?_⟩ <;> kernel_rfl

/-! impl.right -/
def keep77 : Nat → List Nat
  | 0 => [1,2]
  | 1 => [1,2,5]
  | 2 => [2]
  | 3 => [2]
  | _ => []
def ac77 : AC:=.seq (.region [⟨some 1,none,.box (.t 0)⟩,⟨some 2,none,.alloc [.d true (.int .i64 0),.d true (.int .i64 0),.d true (.str ⟨#[]⟩),.nil]⟩] [1,2]) (.seq (.seq (.region [⟨some 3,none,.ld (some 4) (.t 1)⟩,⟨some 4,none,.call (.c (.fn 55 [])) [.t 3]⟩,⟨some 5,none,.not (.t 4)⟩] [1,2,5]) (.cond (.t 5) (.seq (.region [⟨some 6,none,.bld [.d true (.int .i64 0),.d true (.int .i64 0),.d true (.str ⟨#[]⟩),.nil] []⟩,⟨none,none,.st 4 (.t 2) (.t 6)⟩] [2]) (.ret)) (.skip))) (.seq (.region [⟨some 7,none,.ld (some 4) (.t 1)⟩,⟨some 8,none,.call (.c (.fn 99 [])) [.t 7]⟩,⟨none,none,.st 4 (.t 2) (.t 8)⟩] [2]) (.ret)))
theorem ok77 : FnOk Tryd.prog Tryd.f77 9 keep77 ac77 [.c 2 (some 4)]:=by
  refine ⟨?_,?_,?_,?_,?_⟩ <;> kernel_rfl

/-! (*impl.knower).add -/
def keep78 : Nat → List Nat
  | 0 => [0,3,1000000,1000001]
  | 1 => [0,3,18,1000000,1000001]
  | 2 => [4,1000000,1000001]
  | 3 => [1000000,1000001]
  | 4 => [4,1000000,1000001]
  | 1000003 => [1]
  | _ => []
def ac78 : AC:=.seq (.region [⟨some 3,none,.box (.t 1)⟩,⟨some 4,none,.mv (.c (.d true (.bool false)))⟩] [0,3,1000000,1000001]) (.seq (.seq (.draw [⟨some 5,none,.mv (.t 0)⟩,⟨some 6,none,.ck (.t 5)⟩,⟨some 7,none,.fa 0 (.t 6)⟩,⟨some 8,none,.ld none (.t 7)⟩,⟨some 9,none,.len (.t 8)⟩,⟨some 10,none,.bin .geq (.t 9) (.c (.d true (.int .i64 300)))⟩,⟨some 11,none,.mv (.t 10)⟩,⟨some 12,some (11,false),.mv (.t 0)⟩,⟨some 13,some (11,false),.ck (.t 12)⟩,⟨some 14,some (11,false),.fa 0 (.t 13)⟩,⟨some 15,some (11,false),.ld none (.t 14)⟩,⟨some 16,some (11,false),.ld (some 4) (.t 3)⟩,⟨some 17,some (11,false),.call (.c (.fn 131 [])) [.t 15,.t 16]⟩,⟨some 18,none,.pick (.t 11) (.c (.d true (.bool true))) (.t 17)⟩] [0,3,18,1000000,1000001]) (.cond (.t 18) (.seq (.region [⟨some 4,none,.mv (.c (.d true (.bool false)))⟩] [4,1000000,1000001]) (.ret)) (.skip))) (.seq (.tree (.take ⟨some 19,none,.mv (.t 0)⟩ (.take ⟨some 20,none,.ck (.t 19)⟩ (.take ⟨some 21,none,.fa 0 (.t 20)⟩ (.take ⟨some 23,none,.ld (some 4) (.t 3)⟩ (.br (.cons ⟨some 22,none,.ld none (.t 21)⟩ (.take ⟨some 25,none,.len (.t 22)⟩ (.br (.cons ⟨some 24,none,.call (.c (.fn 99 [])) [.t 23]⟩ (.br (.cons ⟨some 26,none,.bs 28 4 [.c (.agg [.d true (.int .i64 0),.d true (.int .i64 0),.d true (.str ⟨#[]⟩),.nil])]⟩ (.br (.cons ⟨some 27,none,.app 28 4 56 (.t 22) (.t 26)⟩ (.take ⟨some 28,none,.ia 4 (.t 27) (.t 25)⟩ (.take ⟨some 29,none,.ck (.t 19)⟩ (.take ⟨some 30,none,.fa 0 (.t 29)⟩ (.br (.cons ⟨none,none,.st 4 (.t 28) (.t 24)⟩ (.br (.cons ⟨none,none,.st 1 (.t 30) (.t 27)⟩ (.done) (.nil))) (.cons ⟨none,none,.st 1 (.t 30) (.t 27)⟩ (.br (.cons ⟨none,none,.st 4 (.t 28) (.t 24)⟩ (.done) (.nil))) (.nil))))))) (.nil))) (.nil))) (.cons ⟨some 26,none,.bs 28 4 [.c (.agg [.d true (.int .i64 0),.d true (.int .i64 0),.d true (.str ⟨#[]⟩),.nil])]⟩ (.br (.cons ⟨some 24,none,.call (.c (.fn 99 [])) [.t 23]⟩ (.br (.cons ⟨some 27,none,.app 28 4 56 (.t 22) (.t 26)⟩ (.take ⟨some 28,none,.ia 4 (.t 27) (.t 25)⟩ (.take ⟨some 29,none,.ck (.t 19)⟩ (.take ⟨some 30,none,.fa 0 (.t 29)⟩ (.br (.cons ⟨none,none,.st 4 (.t 28) (.t 24)⟩ (.br (.cons ⟨none,none,.st 1 (.t 30) (.t 27)⟩ (.done) (.nil))) (.cons ⟨none,none,.st 1 (.t 30) (.t 27)⟩ (.br (.cons ⟨none,none,.st 4 (.t 28) (.t 24)⟩ (.done) (.nil))) (.nil))))))) (.nil))) (.nil))) (.nil))))) (.cons ⟨some 24,none,.call (.c (.fn 99 [])) [.t 23]⟩ (.br (.cons ⟨some 22,none,.ld none (.t 21)⟩ (.take ⟨some 25,none,.len (.t 22)⟩ (.br (.cons ⟨some 26,none,.bs 28 4 [.c (.agg [.d true (.int .i64 0),.d true (.int .i64 0),.d true (.str ⟨#[]⟩),.nil])]⟩ (.br (.cons ⟨some 27,none,.app 28 4 56 (.t 22) (.t 26)⟩ (.take ⟨some 28,none,.ia 4 (.t 27) (.t 25)⟩ (.take ⟨some 29,none,.ck (.t 19)⟩ (.take ⟨some 30,none,.fa 0 (.t 29)⟩ (.br (.cons ⟨none,none,.st 4 (.t 28) (.t 24)⟩ (.br (.cons ⟨none,none,.st 1 (.t 30) (.t 27)⟩ (.done) (.nil))) (.cons ⟨none,none,.st 1 (.t 30) (.t 27)⟩ (.br (.cons ⟨none,none,.st 4 (.t 28) (.t 24)⟩ (.done) (.nil))) (.nil))))))) (.nil))) (.nil)))) (.cons ⟨some 26,none,.bs 28 4 [.c (.agg [.d true (.int .i64 0),.d true (.int .i64 0),.d true (.str ⟨#[]⟩),.nil])]⟩ (.br (.cons ⟨some 22,none,.ld none (.t 21)⟩ (.take ⟨some 25,none,.len (.t 22)⟩ (.br (.cons ⟨some 27,none,.app 28 4 56 (.t 22) (.t 26)⟩ (.take ⟨some 28,none,.ia 4 (.t 27) (.t 25)⟩ (.take ⟨some 29,none,.ck (.t 19)⟩ (.take ⟨some 30,none,.fa 0 (.t 29)⟩ (.br (.cons ⟨none,none,.st 4 (.t 28) (.t 24)⟩ (.br (.cons ⟨none,none,.st 1 (.t 30) (.t 27)⟩ (.done) (.nil))) (.cons ⟨none,none,.st 1 (.t 30) (.t 27)⟩ (.br (.cons ⟨none,none,.st 4 (.t 28) (.t 24)⟩ (.done) (.nil))) (.nil))))))) (.nil)))) (.nil))) (.nil)))) (.cons ⟨some 26,none,.bs 28 4 [.c (.agg [.d true (.int .i64 0),.d true (.int .i64 0),.d true (.str ⟨#[]⟩),.nil])]⟩ (.br (.cons ⟨some 22,none,.ld none (.t 21)⟩ (.take ⟨some 25,none,.len (.t 22)⟩ (.br (.cons ⟨some 24,none,.call (.c (.fn 99 [])) [.t 23]⟩ (.br (.cons ⟨some 27,none,.app 28 4 56 (.t 22) (.t 26)⟩ (.take ⟨some 28,none,.ia 4 (.t 27) (.t 25)⟩ (.take ⟨some 29,none,.ck (.t 19)⟩ (.take ⟨some 30,none,.fa 0 (.t 29)⟩ (.br (.cons ⟨none,none,.st 4 (.t 28) (.t 24)⟩ (.br (.cons ⟨none,none,.st 1 (.t 30) (.t 27)⟩ (.done) (.nil))) (.cons ⟨none,none,.st 1 (.t 30) (.t 27)⟩ (.br (.cons ⟨none,none,.st 4 (.t 28) (.t 24)⟩ (.done) (.nil))) (.nil))))))) (.nil))) (.nil)))) (.cons ⟨some 24,none,.call (.c (.fn 99 [])) [.t 23]⟩ (.br (.cons ⟨some 22,none,.ld none (.t 21)⟩ (.take ⟨some 25,none,.len (.t 22)⟩ (.br (.cons ⟨some 27,none,.app 28 4 56 (.t 22) (.t 26)⟩ (.take ⟨some 28,none,.ia 4 (.t 27) (.t 25)⟩ (.take ⟨some 29,none,.ck (.t 19)⟩ (.take ⟨some 30,none,.fa 0 (.t 29)⟩ (.br (.cons ⟨none,none,.st 4 (.t 28) (.t 24)⟩ (.br (.cons ⟨none,none,.st 1 (.t 30) (.t 27)⟩ (.done) (.nil))) (.cons ⟨none,none,.st 1 (.t 30) (.t 27)⟩ (.br (.cons ⟨none,none,.st 4 (.t 28) (.t 24)⟩ (.done) (.nil))) (.nil))))))) (.nil)))) (.nil))) (.nil)))) (.nil))))))))) [1000000,1000001]) (.seq (.region [⟨some 4,none,.mv (.c (.d true (.bool true)))⟩] [4,1000000,1000001]) (.ret))))
theorem ok78 : FnOk Tryd.prog Tryd.f78 31 keep78 ac78 [.t 4]:=by
  refine ⟨?_,?_,?_,?_,?_⟩ <;> kernel_rfl

/-! (*impl.knower).apart -/
def keep79 : Nat → List Nat
  | 0 => [0,3,1000000,1000001]
  | 1 => [0,3,5,1000000,1000001]
  | 2 => [4,1000000,1000001]
  | 3 => [0,3,11,1000000,1000001]
  | 4 => [3,11,1000000,1000001]
  | 5 => [4,1000000,1000001]
  | 6 => [4,1000000,1000001]
  | _ => []
def ac79 : AC:=.seq (.region [⟨some 3,none,.box (.t 1)⟩,⟨some 4,none,.own 28 4⟩] [0,3,1000000,1000001]) (.seq (.block 0 (.seq (.region [⟨some 6,none,.fa 0 (.t 3)⟩,⟨some 7,none,.ld none (.t 6)⟩,⟨some 8,none,.bin .eql (.t 7) (.c (.d true (.int .i64 3)))⟩,⟨some 5,none,.mv (.t 8)⟩] [0,3,5,1000000,1000001]) (.cond (.t 5) (.seq (.region [⟨some 9,none,.fa 3 (.t 3)⟩,⟨some 10,none,.ld none (.t 9)⟩,⟨some 4,none,.mv (.t 10)⟩] [4,1000000,1000001]) (.ret)) (.seq (.seq (.region [⟨some 12,none,.fa 0 (.t 3)⟩,⟨some 13,none,.ld none (.t 12)⟩,⟨some 14,none,.bin .eql (.t 13) (.c (.d true (.int .i64 8)))⟩,⟨some 11,none,.mv (.t 14)⟩] [0,3,11,1000000,1000001]) (.cond (.t 11) (.skip) (.draw [⟨some 15,none,.fa 0 (.t 3)⟩,⟨some 16,none,.ld none (.t 15)⟩,⟨some 17,none,.bin .eql (.t 16) (.c (.d true (.int .i64 7)))⟩,⟨some 18,none,.mv (.t 17)⟩,⟨some 19,some (18,true),.mv (.t 0)⟩,⟨some 20,some (18,true),.ck (.t 19)⟩,⟨some 21,some (18,true),.fa 0 (.t 20)⟩,⟨some 22,some (18,true),.ld none (.t 21)⟩,⟨some 23,some (18,true),.fa 3 (.t 3)⟩,⟨some 24,some (18,true),.ld none (.t 23)⟩,⟨some 25,some (18,true),.ia 4 (.t 24) (.c (.d true (.int .i64 0)))⟩,⟨some 26,some (18,true),.ld (some 4) (.t 25)⟩,⟨some 27,some (18,true),.call (.c (.fn 85 [])) [.t 22,.t 26]⟩,⟨some 28,none,.pick (.t 18) (.t 27) (.c (.d true (.bool false)))⟩,⟨some 11,none,.mv (.t 28)⟩] [3,11,1000000,1000001]))) (.cond (.t 11) (.seq (.region [⟨some 29,none,.fa 3 (.t 3)⟩,⟨some 30,none,.ld none (.t 29)⟩,⟨some 31,none,.slc 4 (.t 30) (some (.c (.d true (.int .i64 1)))) none⟩,⟨some 4,none,.mv (.t 31)⟩] [4,1000000,1000001]) (.ret)) (.skip)))))) (.seq (.region [⟨some 4,none,.own 28 4⟩] [4,1000000,1000001]) (.ret)))
theorem ok79 : FnOk Tryd.prog Tryd.f79 32 keep79 ac79 [.t 4]:=by
  refine ⟨?_,?_,?_,?_,?_⟩ <;> kernel_rfl

/-! spec.l2Add -/
def keep80 : Nat → List Nat
  | 0 => [0,3]
  | 1 => [0,3,12]
  | 2 => [4]
  | 3 => [4]
  | _ => []
def ac80 : AC:=.seq (.region [⟨some 3,none,.box (.t 1)⟩,⟨some 4,none,.own 28 4⟩] [0,3]) (.seq (.seq (.region [⟨some 5,none,.mv (.t 0)⟩,⟨some 6,none,.len (.t 5)⟩,⟨some 7,none,.bin .geq (.t 6) (.c (.d true (.int .i64 300)))⟩,⟨some 8,none,.mv (.t 7)⟩,⟨some 9,some (8,false),.mv (.t 0)⟩,⟨some 10,some (8,false),.ld (some 4) (.t 3)⟩,⟨some 11,some (8,false),.call (.c (.fn 132 [])) [.t 9,.t 10]⟩,⟨some 12,none,.pick (.t 8) (.c (.d true (.bool true))) (.t 11)⟩] [0,3,12]) (.cond (.t 12) (.seq (.region [⟨some 13,none,.mv (.t 0)⟩,⟨some 4,none,.mv (.t 13)⟩] [4]) (.ret)) (.skip))) (.seq (.region [⟨some 14,none,.mv (.t 0)⟩,⟨some 15,none,.ld (some 4) (.t 3)⟩,⟨some 16,none,.call (.c (.fn 101 [])) [.t 15]⟩,⟨some 17,none,.bs 28 4 [.t 16]⟩,⟨some 18,none,.app 28 4 56 (.t 14) (.t 17)⟩,⟨some 4,none,.mv (.t 18)⟩] [4]) (.ret)))
theorem ok80 : FnOk Tryd.prog Tryd.f80 19 keep80 ac80 [.t 4]:=by
  refine ⟨?_,?_,?_,?_,?_⟩ <;> kernel_rfl

/-! spec.l2Made -/
def keep81 : Nat → List Nat
  | 0 => [0,3]
  | 1 => [0,3,15]
  | 2 => [4]
  | 3 => [0,3,18]
  | 4 => [4]
  | 5 => [0,3,21]
  | 6 => [0,5,6]
  | 7 => [4]
  | 8 => [0,3,7]
  | 9 => [0,3,7,54]
  | 10 => [0,3,7]
  | 11 => [0,3,7,64]
  | 12 => [4]
  | 13 => [4]
  | 1000006 => [1]
  | _ => []
def ac81 : AC:=.seq (.region [⟨some 3,none,.box (.t 1)⟩,⟨some 4,none,.mv (.c (.d true (.bool false)))⟩] [0,3]) (.seq (.seq (.region [⟨some 8,none,.fa 0 (.t 3)⟩,⟨some 9,none,.ld none (.t 8)⟩,⟨some 10,none,.bin .eql (.t 9) (.c (.d true (.int .i64 2)))⟩,⟨some 11,none,.mv (.t 10)⟩,⟨some 12,some (11,false),.mv (.t 0)⟩,⟨some 13,some (11,false),.ld (some 4) (.t 3)⟩,⟨some 14,some (11,false),.call (.c (.fn 132 [])) [.t 12,.t 13]⟩,⟨some 15,none,.pick (.t 11) (.c (.d true (.bool true))) (.t 14)⟩] [0,3,15]) (.cond (.t 15) (.seq (.region [⟨some 4,none,.mv (.c (.d true (.bool true)))⟩] [4]) (.ret)) (.skip))) (.seq (.seq (.region [⟨some 16,none,.fa 0 (.t 3)⟩,⟨some 17,none,.ld none (.t 16)⟩,⟨some 18,none,.bin .eql (.t 17) (.c (.d true (.int .i64 1)))⟩] [0,3,18]) (.cond (.t 18) (.seq (.region [⟨some 4,none,.mv (.c (.d true (.bool false)))⟩] [4]) (.ret)) (.skip))) (.seq (.seq (.region [⟨some 19,none,.fa 0 (.t 3)⟩,⟨some 20,none,.ld none (.t 19)⟩,⟨some 21,none,.bin .eql (.t 20) (.c (.d true (.int .i64 5)))⟩] [0,3,21]) (.cond (.t 21) (.seq (.tree (.take ⟨some 22,none,.fa 3 (.t 3)⟩ (.take ⟨some 23,none,.ld none (.t 22)⟩ (.take ⟨some 24,none,.ia 4 (.t 23) (.c (.d true (.int .i64 0)))⟩ (.take ⟨some 25,none,.ld (some 4) (.t 24)⟩ (.take ⟨some 26,none,.fa 3 (.t 3)⟩ (.take ⟨some 27,none,.ld none (.t 26)⟩ (.take ⟨some 28,none,.ia 4 (.t 27) (.c (.d true (.int .i64 1)))⟩ (.take ⟨some 29,none,.ld (some 4) (.t 28)⟩ (.br (.cons ⟨some 5,none,.alloc [.d true (.int .i64 0),.d true (.int .i64 0),.d true (.str ⟨#[]⟩),.nil]⟩ (.br (.cons ⟨some 6,none,.alloc [.d true (.int .i64 0),.d true (.int .i64 0),.d true (.str ⟨#[]⟩),.nil]⟩ (.br (.cons ⟨none,none,.st 4 (.t 5) (.t 25)⟩ (.br (.cons ⟨none,none,.st 4 (.t 6) (.t 29)⟩ (.done) (.nil))) (.nil))) (.nil))) (.cons ⟨some 6,none,.alloc [.d true (.int .i64 0),.d true (.int .i64 0),.d true (.str ⟨#[]⟩),.nil]⟩ (.br (.cons ⟨some 5,none,.alloc [.d true (.int .i64 0),.d true (.int .i64 0),.d true (.str ⟨#[]⟩),.nil]⟩ (.br (.cons ⟨none,none,.st 4 (.t 5) (.t 25)⟩ (.br (.cons ⟨none,none,.st 4 (.t 6) (.t 29)⟩ (.done) (.nil))) (.nil))) (.nil))) (.nil)))))))))))) [0,5,6]) (.seq (.region [⟨some 30,none,.mv (.t 0)⟩,⟨some 31,none,.ld (some 4) (.t 5)⟩,⟨some 32,none,.call (.c (.fn 81 [])) [.t 30,.t 31]⟩,⟨some 33,none,.mv (.t 32)⟩,⟨some 34,some (33,true),.mv (.t 0)⟩,⟨some 35,some (33,true),.ld (some 4) (.t 6)⟩,⟨some 36,some (33,true),.call (.c (.fn 103 [])) [.t 35]⟩,⟨some 37,some (33,true),.call (.c (.fn 81 [])) [.t 34,.t 36]⟩,⟨some 38,none,.pick (.t 33) (.t 37) (.c (.d true (.bool false)))⟩,⟨some 39,none,.mv (.t 38)⟩,⟨some 40,some (39,false),.mv (.t 0)⟩,⟨some 41,some (39,false),.ld (some 4) (.t 6)⟩,⟨some 42,some (39,false),.call (.c (.fn 81 [])) [.t 40,.t 41]⟩,⟨some 43,some (39,false),.mv (.t 42)⟩,⟨some 44,some (43,true),.mv (.t 0)⟩,⟨some 45,some (43,true),.ld (some 4) (.t 5)⟩,⟨some 46,some (43,true),.call (.c (.fn 103 [])) [.t 45]⟩,⟨some 47,some (43,true),.call (.c (.fn 81 [])) [.t 44,.t 46]⟩,⟨some 48,some (39,false),.pick (.t 43) (.t 47) (.c (.d true (.bool false)))⟩,⟨some 49,none,.pick (.t 39) (.c (.d true (.bool true))) (.t 48)⟩,⟨some 4,none,.mv (.t 49)⟩] [4]) (.ret))) (.skip))) (.seq (.seq (.region [⟨some 7,none,.mv (.c (.d true (.int .i64 0)))⟩] [0,3,7]) (.block 0 (.loop (.seq (.seq (.region [⟨some 50,none,.mv (.t 7)⟩,⟨some 51,none,.fa 3 (.t 3)⟩,⟨some 52,none,.ld none (.t 51)⟩,⟨some 53,none,.len (.t 52)⟩,⟨some 54,none,.bin .lss (.t 50) (.t 53)⟩] [0,3,7,54]) (.cond (.t 54) (.skip) (.exit 0))) (.seq (.block 1 (.seq (.region [⟨some 57,none,.mv (.t 0)⟩,⟨some 58,none,.fa 3 (.t 3)⟩,⟨some 59,none,.ld none (.t 58)⟩,⟨some 60,none,.mv (.t 7)⟩,⟨some 61,none,.ia 4 (.t 59) (.t 60)⟩,⟨some 62,none,.ld (some 4) (.t 61)⟩,⟨some 63,none,.call (.c (.fn 81 [])) [.t 57,.t 62]⟩,⟨some 64,none,.not (.t 63)⟩] [0,3,7,64]) (.cond (.t 64) (.seq (.region [⟨some 4,none,.mv (.c (.d true (.bool false)))⟩] [4]) (.ret)) (.skip)))) (.region [⟨some 55,none,.mv (.t 7)⟩,⟨some 56,none,.bin .add (.t 55) (.c (.d true (.int .i64 1)))⟩,⟨some 7,none,.mv (.t 56)⟩] [0,3,7])))))) (.seq (.region [⟨some 4,none,.mv (.c (.d true (.bool true)))⟩] [4]) (.ret))))))
theorem ok81 : FnOk Tryd.prog Tryd.f81 65 keep81 ac81 [.t 4]:=by
  refine ⟨?_,?_,?_,?_,?_⟩ <;> kernel_rfl

/-! impl.Pair -/
def keep82 : Nat → List Nat
  | 0 => [2,3,4]
  | 1 => [4]
  | _ => []
def ac82 : AC:=.seq (.region [⟨some 2,none,.box (.t 0)⟩,⟨some 3,none,.box (.t 1)⟩,⟨some 4,none,.alloc [.d true (.int .i64 0),.d true (.int .i64 0),.d true (.str ⟨#[]⟩),.nil]⟩] [2,3,4]) (.seq (.region [⟨some 5,none,.ld (some 4) (.t 2)⟩,⟨some 6,none,.ld (some 4) (.t 3)⟩,⟨some 7,none,.bs 28 4 [.t 5,.t 6]⟩,⟨some 8,none,.bld [.d true (.int .i64 0),.d true (.int .i64 0),.d true (.str ⟨#[]⟩),.nil] [(0,1,.c (.d true (.int .i64 3))),(3,1,.t 7)]⟩,⟨some 9,none,.call (.c (.fn 77 [])) [.t 8]⟩,⟨none,none,.st 4 (.t 4) (.t 9)⟩] [4]) (.ret))
theorem ok82 : FnOk Tryd.prog Tryd.f82 10 keep82 ac82 [.c 4 (some 4)]:=by
  refine ⟨?_,?_,?_,?_,?_⟩ <;> kernel_rfl

/-! impl.digits -/
def keep83 : Nat → List Nat
  | 0 => [0,2]
  | 1 => [2]
  | _ => []
def ac83 : AC:=.seq (.region [⟨some 2,none,.alloc [.d true (.int .i64 0),.d true (.int .i64 0),.d true (.str ⟨#[]⟩),.nil]⟩] [0,2]) (.seq (.region [⟨some 3,none,.mv (.t 0)⟩,⟨some 4,none,.call (.c (.fn 111 [])) [.t 3]⟩,⟨some 5,none,.call (.c (.fn 127 [])) [.t 4]⟩,⟨none,none,.st 4 (.t 2) (.t 5)⟩] [2]) (.ret))
theorem ok83 : FnOk Tryd.prog Tryd.f83 6 keep83 ac83 [.c 2 (some 4)]:=by
  refine ⟨?_,?_,?_,?_,?_⟩ <;> kernel_rfl

/-! impl.Hash -/
def keep84 : Nat → List Nat
  | 0 => [1,2]
  | 1 => [2]
  | _ => []
def ac84 : AC:=.seq (.region [⟨some 1,none,.box (.t 0)⟩,⟨some 2,none,.alloc [.d true (.int .i64 0),.d true (.int .i64 0),.d true (.str ⟨#[]⟩),.nil]⟩] [1,2]) (.seq (.region [⟨some 3,none,.ld (some 4) (.t 1)⟩,⟨some 4,none,.bs 28 4 [.t 3]⟩,⟨some 5,none,.bld [.d true (.int .i64 0),.d true (.int .i64 0),.d true (.str ⟨#[]⟩),.nil] [(0,1,.c (.d true (.int .i64 6))),(3,1,.t 4)]⟩,⟨some 6,none,.call (.c (.fn 77 [])) [.t 5]⟩,⟨none,none,.st 4 (.t 2) (.t 6)⟩] [2]) (.ret))
theorem ok84 : FnOk Tryd.prog Tryd.f84 7 keep84 ac84 [.c 2 (some 4)]:=by
  refine ⟨?_,?_,?_,?_,?_⟩ <;> kernel_rfl

/-! impl.Made -/
def keep85 : Nat → List Nat
  | 0 => [0,3]
  | 1 => [4]
  | _ => []
def ac85 : AC:=.seq (.region [⟨some 3,none,.box (.t 1)⟩,⟨some 4,none,.mv (.c (.d true (.bool false)))⟩] [0,3]) (.seq (.region [⟨some 5,none,.ld (some 4) (.t 3)⟩,⟨some 6,none,.call (.c (.fn 55 [])) [.t 5]⟩,⟨some 7,none,.mv (.t 6)⟩,⟨some 8,some (7,true),.mv (.t 0)⟩,⟨some 9,some (7,true),.ld (some 4) (.t 3)⟩,⟨some 10,some (7,true),.call (.c (.fn 133 [])) [.t 8,.t 9]⟩,⟨some 11,none,.pick (.t 7) (.t 10) (.c (.d true (.bool false)))⟩,⟨some 4,none,.mv (.t 11)⟩] [4]) (.ret))
theorem ok85 : FnOk Tryd.prog Tryd.f85 12 keep85 ac85 [.t 4]:=by
  refine ⟨?_,?_,?_,?_,?_⟩ <;> kernel_rfl

/-! spec.l5DrawText -/
/-! spec.l1Once -/
def keep87 : Nat → List Nat
  | 0 => [0,1,1000000,1000001]
  | 1 => [4,1000000,1000001]
  | _ => []
def ac87 : AC:=.seq (.region [⟨some 4,none,.mv (.c (.d true (.bool false)))⟩] [0,1,1000000,1000001]) (.seq (.region [⟨some 5,none,.mv (.t 0)⟩,⟨some 6,none,.mv (.t 1)⟩,⟨some 7,none,.call (.c (.fn 98 [])) [.t 5,.t 6]⟩,⟨some 8,none,.bin .eql (.t 7) (.c (.d true (.int .i64 0)))⟩,⟨some 4,none,.mv (.t 8)⟩] [4,1000000,1000001]) (.ret))
theorem ok87 : FnOk Tryd.prog Tryd.f87 9 keep87 ac87 [.t 4]:=by
  refine ⟨?_,?_,?_,?_,?_⟩ <;> kernel_rfl

/-! spec.l5DrawHost -/
/-! spec.l5Star -/
/-! impl.labelsOk -/
/-! spec.l5Labels -/
/-! spec.l1Draw -/
def keep95 : Nat → List Nat
  | 0 => [0,2,1000000,1000001]
  | 1 => [0,2,3,1000000,1000001]
  | 2 => [0,2,3,7,1000000,1000001]
  | 3 => [0,2,3,7,8,1000000,1000001]
  | 4 => [2,3,1000000,1000001]
  | 5 => [0,2,3,7,14,1000000,1000001]
  | 6 => [2,3,1000000,1000001]
  | 7 => [2,3,7,20,1000000,1000001]
  | 8 => [2,3,1000000,1000001]
  | 9 => [2,3,23,1000000,1000001]
  | 10 => [2,3,1000000,1000001]
  | 11 => [2,1000000,1000001]
  | _ => []
def ac95 : AC:=.seq (.region [⟨some 2,none,.alloc [.d true (.int .i64 0),.d true (.int .i64 0),.d true (.str ⟨#[]⟩),.nil]⟩] [0,2,1000000,1000001]) (.seq (.region [⟨some 4,none,.mv (.t 0)⟩,⟨some 5,none,.call (.c (.fn 97 [])) [.t 4,.c (.d true (.int .i64 3))]⟩,⟨some 3,none,.alloc [.d true (.int .i64 0),.d true (.int .i64 0),.d true (.str ⟨#[]⟩),.nil]⟩,⟨none,none,.st 4 (.t 3) (.t 5)⟩] [0,2,3,1000000,1000001]) (.seq (.seq (.region [⟨some 6,none,.mv (.t 0)⟩,⟨some 7,none,.call (.c (.fn 98 [])) [.t 6,.c (.d true (.int .i64 14))]⟩] [0,2,3,7,1000000,1000001]) (.block 0 (.seq (.region [⟨some 9,none,.bin .eql (.t 7) (.c (.d true (.int .i64 0)))⟩,⟨some 8,none,.mv (.t 9)⟩] [0,2,3,7,8,1000000,1000001]) (.cond (.t 8) (.region [⟨some 10,none,.mv (.t 0)⟩,⟨some 11,none,.call (.c (.fn 98 [])) [.t 10,.c (.d true (.int .i64 11))]⟩,⟨some 12,none,.bin .sub (.t 11) (.c (.d true (.int .i64 1)))⟩,⟨some 13,none,.fa 0 (.t 3)⟩,⟨none,none,.st 1 (.t 13) (.t 12)⟩] [2,3,1000000,1000001]) (.seq (.region [⟨some 15,none,.bin .eql (.t 7) (.c (.d true (.int .i64 1)))⟩,⟨some 14,none,.mv (.t 15)⟩] [0,2,3,7,14,1000000,1000001]) (.cond (.t 14) (.region [⟨some 16,none,.mv (.t 0)⟩,⟨some 17,none,.bs 3 1 [.c (.d true (.int .i64 (-1))),.c (.d true (.int .i64 1)),.c (.d true (.int .i64 1000000)),.c (.d true (.int .i64 1000001)),.c (.d true (.int .i64 (-9223372036854775808)))]⟩,⟨some 18,none,.call (.c (.fn 96 [])) [.t 16,.t 17]⟩,⟨some 19,none,.fa 1 (.t 3)⟩,⟨none,none,.st 1 (.t 19) (.t 18)⟩] [2,3,1000000,1000001]) (.seq (.region [⟨some 21,none,.bin .eql (.t 7) (.c (.d true (.int .i64 2)))⟩,⟨some 20,none,.mv (.t 21)⟩] [2,3,7,20,1000000,1000001]) (.cond (.t 20) (.region [⟨some 22,none,.fa 2 (.t 3)⟩,⟨none,none,.st 1 (.t 22) (.c (.d true (.str ⟨#[120]⟩)))⟩] [2,3,1000000,1000001]) (.seq (.region [⟨some 24,none,.bin .eql (.t 7) (.c (.d true (.int .i64 3)))⟩,⟨some 23,none,.mv (.t 24)⟩] [2,3,23,1000000,1000001]) (.cond (.t 23) (.region [⟨some 25,none,.fa 3 (.t 3)⟩,⟨some 26,none,.ld none (.t 25)⟩,⟨some 27,none,.bld [.d true (.int .i64 0),.d true (.int .i64 0),.d true (.str ⟨#[]⟩),.nil] [(0,1,.c (.d true (.int .i64 1)))]⟩,⟨some 28,none,.bs 28 4 [.t 27]⟩,⟨some 29,none,.app 28 4 56 (.t 26) (.t 28)⟩,⟨some 30,none,.fa 3 (.t 3)⟩,⟨none,none,.st 1 (.t 30) (.t 29)⟩] [2,3,1000000,1000001]) (.skip))))))))))) (.seq (.region [⟨some 31,none,.ld (some 4) (.t 3)⟩,⟨none,none,.st 4 (.t 2) (.t 31)⟩] [2,1000000,1000001]) (.ret))))
theorem ok95 : FnOk Tryd.prog Tryd.f95 32 keep95 ac95 [.c 2 (some 4)]:=by
  refine ⟨?_,?_,?_,?_,?_⟩ <;> kernel_rfl

/-! spec.l1PickInt -/
def keep96 : Nat → List Nat
  | 0 => [0,1,1000000,1000001]
  | 1 => [4,1000000,1000001]
  | _ => []
def ac96 : AC:=.seq (.region [⟨some 4,none,.mv (.c (.d true (.int .i64 0)))⟩] [0,1,1000000,1000001]) (.seq (.region [⟨some 5,none,.mv (.t 1)⟩,⟨some 6,none,.mv (.t 0)⟩,⟨some 7,none,.mv (.t 1)⟩,⟨some 8,none,.len (.t 7)⟩,⟨some 9,none,.call (.c (.fn 98 [])) [.t 6,.t 8]⟩,⟨some 10,none,.ia 1 (.t 5) (.t 9)⟩,⟨some 11,none,.ld none (.t 10)⟩,⟨some 4,none,.mv (.t 11)⟩] [4,1000000,1000001]) (.ret))
theorem ok96 : FnOk Tryd.prog Tryd.f96 12 keep96 ac96 [.t 4]:=by
  refine ⟨?_,?_,?_,?_,?_⟩ <;> kernel_rfl

/-! spec.l1DrawRight -/
def keep97 : Nat → List Nat
  | 0 => [0,1,4,1000000,1000001]
  | 1 => [0,1,4,13,1000000,1000001]
  | 2 => [0,4,15,1000000,1000001]
  | 3 => [4,1000000,1000001]
  | 4 => [4,1000000,1000001]
  | 5 => [0,1,4,5,1000000,1000001]
  | 6 => [0,1,4,5,28,1000000,1000001]
  | 7 => [0,1,4,5,28,29,1000000,1000001]
  | 8 => [4,1000000,1000001]
  | 9 => [0,1,4,5,28,33,1000000,1000001]
  | 10 => [4,1000000,1000001]
  | 11 => [0,1,4,5,28,37,1000000,1000001]
  | 12 => [4,5,6,7,1000000,1000001]
  | 13 => [4,5,6,49,1000000,1000001]
  | 14 => [4,1000000,1000001]
  | 15 => [4,1000000,1000001]
  | 16 => [0,1,4,5,28,52,1000000,1000001]
  | 17 => [4,1000000,1000001]
  | 18 => [0,1,4,5,62,1000000,1000001]
  | 19 => [4,1000000,1000001]
  | 20 => [4,1000000,1000001]
  | 1000012 => [1]
  | 1000017 => [1]
  | 1000019 => [1]
  | 1000020 => [1]
  | _ => []
def ac97 : AC:=.seq (.region [⟨some 4,none,.alloc [.d true (.int .i64 0),.d true (.int .i64 0),.d true (.str ⟨#[]⟩),.nil]⟩] [0,1,4,1000000,1000001]) (.seq (.seq (.region [⟨some 8,none,.mv (.t 1)⟩,⟨some 9,none,.bin .eql (.t 8) (.c (.d true (.int .i64 0)))⟩,⟨some 10,none,.mv (.t 9)⟩,⟨some 11,some (10,false),.mv (.t 0)⟩,⟨some 12,some (10,false),.call (.c (.fn 87 [])) [.t 11,.c (.d true (.int .i64 4))]⟩,⟨some 13,none,.pick (.t 10) (.c (.d true (.bool true))) (.t 12)⟩] [0,1,4,13,1000000,1000001]) (.cond (.t 13) (.seq (.seq (.region [⟨some 14,none,.mv (.t 0)⟩,⟨some 15,none,.call (.c (.fn 87 [])) [.t 14,.c (.d true (.int .i64 3))]⟩] [0,4,15,1000000,1000001]) (.cond (.t 15) (.seq (.region [⟨some 16,none,.mv (.t 0)⟩,⟨some 17,none,.bs 9 1 [.c (.d true (.str ⟨#[]⟩)),.c (.d true (.str ⟨#[97]⟩)),.c (.d true (.str ⟨#[109,120,46,97]⟩)),.c (.d true (.str ⟨#[50,53,48]⟩))]⟩,⟨some 18,none,.call (.c (.fn 134 [])) [.t 16,.t 17]⟩,⟨some 19,none,.bld [.d true (.int .i64 0),.d true (.int .i64 0),.d true (.str ⟨#[]⟩),.nil] [(0,1,.c (.d true (.int .i64 2))),(2,1,.t 18)]⟩,⟨none,none,.st 4 (.t 4) (.t 19)⟩] [4,1000000,1000001]) (.ret)) (.skip))) (.seq (.region [⟨some 20,none,.mv (.t 0)⟩,⟨some 21,none,.call (.c (.fn 98 [])) [.t 20,.c (.d true (.int .i64 9))]⟩,⟨some 22,none,.bld [.d true (.int .i64 0),.d true (.int .i64 0),.d true (.str ⟨#[]⟩),.nil] [(0,1,.c (.d true (.int .i64 1))),(1,1,.t 21)]⟩,⟨none,none,.st 4 (.t 4) (.t 22)⟩] [4,1000000,1000001]) (.ret))) (.skip))) (.seq (.region [⟨some 23,none,.mv (.t 0)⟩,⟨some 24,none,.mv (.t 1)⟩,⟨some 25,none,.bin .sub (.t 24) (.c (.d true (.int .i64 1)))⟩,⟨some 26,none,.call (.c (.fn 97 [])) [.t 23,.t 25]⟩,⟨some 5,none,.alloc [.d true (.int .i64 0),.d true (.int .i64 0),.d true (.str ⟨#[]⟩),.nil]⟩,⟨none,none,.st 4 (.t 5) (.t 26)⟩] [0,1,4,5,1000000,1000001]) (.seq (.seq (.region [⟨some 27,none,.mv (.t 0)⟩,⟨some 28,none,.call (.c (.fn 98 [])) [.t 27,.c (.d true (.int .i64 7))]⟩] [0,1,4,5,28,1000000,1000001]) (.block 0 (.seq (.region [⟨some 30,none,.bin .eql (.t 28) (.c (.d true (.int .i64 0)))⟩,⟨some 29,none,.mv (.t 30)⟩] [0,1,4,5,28,29,1000000,1000001]) (.cond (.t 29) (.seq (.region [⟨some 31,none,.ld (some 4) (.t 5)⟩,⟨some 32,none,.call (.c (.fn 102 [])) [.t 31]⟩,⟨none,none,.st 4 (.t 4) (.t 32)⟩] [4,1000000,1000001]) (.ret)) (.seq (.region [⟨some 34,none,.bin .eql (.t 28) (.c (.d true (.int .i64 1)))⟩,⟨some 33,none,.mv (.t 34)⟩] [0,1,4,5,28,33,1000000,1000001]) (.cond (.t 33) (.seq (.region [⟨some 35,none,.ld (some 4) (.t 5)⟩,⟨some 36,none,.call (.c (.fn 108 [])) [.t 35]⟩,⟨none,none,.st 4 (.t 4) (.t 36)⟩] [4,1000000,1000001]) (.ret)) (.seq (.region [⟨some 38,none,.bin .eql (.t 28) (.c (.d true (.int .i64 2)))⟩,⟨some 37,none,.mv (.t 38)⟩] [0,1,4,5,28,37,1000000,1000001]) (.cond (.t 37) (.seq (.tree (.take ⟨some 40,none,.ld (some 4) (.t 5)⟩ (.take ⟨some 41,none,.mv (.t 0)⟩ (.take ⟨some 42,none,.mv (.t 1)⟩ (.take ⟨some 43,none,.bin .sub (.t 42) (.c (.d true (.int .i64 1)))⟩ (.br (.cons ⟨some 44,none,.call (.c (.fn 97 [])) [.t 41,.t 43]⟩ (.br (.cons ⟨some 45,none,.call (.c (.fn 102 [])) [.t 44]⟩ (.br (.cons ⟨some 46,none,.call (.c (.fn 142 [])) [.t 40,.t 45]⟩ (.take ⟨some 39,none,.mv (.t 46)⟩ (.take ⟨some 47,none,.ext (.t 39) 0⟩ (.take ⟨some 48,none,.ext (.t 39) 1⟩ (.br (.cons ⟨some 6,none,.alloc [.d true (.int .i64 0),.d true (.int .i64 0),.d true (.str ⟨#[]⟩),.nil]⟩ (.br (.cons ⟨none,none,.st 4 (.t 6) (.t 47)⟩ (.take ⟨some 7,none,.mv (.t 48)⟩ (.done)) (.nil))) (.nil)))))) (.cons ⟨some 6,none,.alloc [.d true (.int .i64 0),.d true (.int .i64 0),.d true (.str ⟨#[]⟩),.nil]⟩ (.br (.cons ⟨some 46,none,.call (.c (.fn 142 [])) [.t 40,.t 45]⟩ (.take ⟨some 39,none,.mv (.t 46)⟩ (.take ⟨some 47,none,.ext (.t 39) 0⟩ (.take ⟨some 48,none,.ext (.t 39) 1⟩ (.br (.cons ⟨none,none,.st 4 (.t 6) (.t 47)⟩ (.take ⟨some 7,none,.mv (.t 48)⟩ (.done)) (.nil)))))) (.nil))) (.nil)))) (.cons ⟨some 6,none,.alloc [.d true (.int .i64 0),.d true (.int .i64 0),.d true (.str ⟨#[]⟩),.nil]⟩ (.br (.cons ⟨some 45,none,.call (.c (.fn 102 [])) [.t 44]⟩ (.br (.cons ⟨some 46,none,.call (.c (.fn 142 [])) [.t 40,.t 45]⟩ (.take ⟨some 39,none,.mv (.t 46)⟩ (.take ⟨some 47,none,.ext (.t 39) 0⟩ (.take ⟨some 48,none,.ext (.t 39) 1⟩ (.br (.cons ⟨none,none,.st 4 (.t 6) (.t 47)⟩ (.take ⟨some 7,none,.mv (.t 48)⟩ (.done)) (.nil)))))) (.nil))) (.nil))) (.nil)))) (.cons ⟨some 6,none,.alloc [.d true (.int .i64 0),.d true (.int .i64 0),.d true (.str ⟨#[]⟩),.nil]⟩ (.br (.cons ⟨some 44,none,.call (.c (.fn 97 [])) [.t 41,.t 43]⟩ (.br (.cons ⟨some 45,none,.call (.c (.fn 102 [])) [.t 44]⟩ (.br (.cons ⟨some 46,none,.call (.c (.fn 142 [])) [.t 40,.t 45]⟩ (.take ⟨some 39,none,.mv (.t 46)⟩ (.take ⟨some 47,none,.ext (.t 39) 0⟩ (.take ⟨some 48,none,.ext (.t 39) 1⟩ (.br (.cons ⟨none,none,.st 4 (.t 6) (.t 47)⟩ (.take ⟨some 7,none,.mv (.t 48)⟩ (.done)) (.nil)))))) (.nil))) (.nil))) (.nil))) (.nil)))))))) [4,5,6,7,1000000,1000001]) (.seq (.seq (.region [⟨some 49,none,.mv (.t 7)⟩] [4,5,6,49,1000000,1000001]) (.cond (.t 49) (.seq (.region [⟨some 50,none,.ld (some 4) (.t 6)⟩,⟨none,none,.st 4 (.t 4) (.t 50)⟩] [4,1000000,1000001]) (.ret)) (.skip))) (.seq (.region [⟨some 51,none,.ld (some 4) (.t 5)⟩,⟨none,none,.st 4 (.t 4) (.t 51)⟩] [4,1000000,1000001]) (.ret)))) (.seq (.region [⟨some 53,none,.bin .eql (.t 28) (.c (.d true (.int .i64 3)))⟩,⟨some 52,none,.mv (.t 53)⟩] [0,1,4,5,28,52,1000000,1000001]) (.cond (.t 52) (.seq (.tree (.take ⟨some 54,none,.ld (some 4) (.t 5)⟩ (.take ⟨some 55,none,.mv (.t 0)⟩ (.take ⟨some 57,none,.mv (.t 0)⟩ (.take ⟨some 58,none,.mv (.t 1)⟩ (.take ⟨some 59,none,.bin .sub (.t 58) (.c (.d true (.int .i64 1)))⟩ (.br (.cons ⟨some 56,none,.call (.c (.fn 98 [])) [.t 55,.c (.d true (.int .i64 3))]⟩ (.br (.cons ⟨some 60,none,.call (.c (.fn 97 [])) [.t 57,.t 59]⟩ (.br (.cons ⟨some 61,none,.call (.c (.fn 43 [])) [.t 54,.t 56,.t 60]⟩ (.br (.cons ⟨none,none,.st 4 (.t 4) (.t 61)⟩ (.done) (.nil))) (.nil))) (.nil))) (.nil)))))))) [4,1000000,1000001]) (.ret)) (.seq (.region [⟨some 63,none,.bin .eql (.t 28) (.c (.d true (.int .i64 4)))⟩,⟨some 62,none,.mv (.t 63)⟩] [0,1,4,5,62,1000000,1000001]) (.cond (.t 62) (.seq (.tree (.take ⟨some 64,none,.ld (some 4) (.t 5)⟩ (.take ⟨some 65,none,.mv (.t 0)⟩ (.take ⟨some 66,none,.mv (.t 1)⟩ (.take ⟨some 67,none,.bin .sub (.t 66) (.c (.d true (.int .i64 1)))⟩ (.br (.cons ⟨some 68,none,.call (.c (.fn 97 [])) [.t 65,.t 67]⟩ (.br (.cons ⟨some 69,none,.call (.c (.fn 45 [])) [.t 64,.t 68]⟩ (.br (.cons ⟨none,none,.st 4 (.t 4) (.t 69)⟩ (.done) (.nil))) (.nil))) (.nil))))))) [4,1000000,1000001]) (.ret)) (.skip))))))))))))) (.seq (.tree (.take ⟨some 70,none,.ld (some 4) (.t 5)⟩ (.take ⟨some 71,none,.mv (.t 0)⟩ (.take ⟨some 72,none,.mv (.t 1)⟩ (.take ⟨some 73,none,.bin .sub (.t 72) (.c (.d true (.int .i64 1)))⟩ (.br (.cons ⟨some 74,none,.call (.c (.fn 97 [])) [.t 71,.t 73]⟩ (.br (.cons ⟨some 75,none,.call (.c (.fn 107 [])) [.t 70,.t 74]⟩ (.br (.cons ⟨none,none,.st 4 (.t 4) (.t 75)⟩ (.done) (.nil))) (.nil))) (.nil))))))) [4,1000000,1000001]) (.ret)))))
theorem ok97 : FnOk Tryd.prog Tryd.f97 76 keep97 ac97 [.c 4 (some 4)]:=by
  refine ⟨?_,?_,?_,?_,?_⟩ <;> kernel_rfl

/-! spec.l1Below -/
def keep98 : Nat → List Nat
  | 0 => [0,1,1000000,1000001]
  | 1 => [0,1,10,1000000,1000001]
  | 2 => [4,1000000,1000001]
  | 3 => [0,1,12,1000000,1000001]
  | 4 => [4,1000000,1000001]
  | 5 => [0,1,5,1000000,1000001]
  | 6 => [0,1,5,6,1000000,1000001]
  | 7 => [0,1,5,6,7,1000000,1000001]
  | 8 => [1,5,6,7,8,1000000,1000001]
  | 9 => [4,1000000,1000001]
  | _ => []
def ac98 : AC:=.seq (.region [⟨some 4,none,.mv (.c (.d true (.int .i64 0)))⟩] [0,1,1000000,1000001]) (.seq (.seq (.region [⟨some 9,none,.mv (.t 1)⟩,⟨some 10,none,.bin .leq (.t 9) (.c (.d true (.int .i64 0)))⟩] [0,1,10,1000000,1000001]) (.cond (.t 10) (.seq (.region [⟨some 4,none,.mv (.c (.d true (.int .i64 0)))⟩] [4,1000000,1000001]) (.ret)) (.skip))) (.seq (.seq (.region [⟨some 11,none,.mv (.t 1)⟩,⟨some 12,none,.bin .leq (.t 11) (.c (.d true (.int .i64 256)))⟩] [0,1,12,1000000,1000001]) (.cond (.t 12) (.seq (.region [⟨some 13,none,.mv (.t 0)⟩,⟨some 14,none,.call (.c (.fn 143 [])) [.t 13]⟩,⟨some 15,none,.mv (.t 1)⟩,⟨some 16,none,.bin .rem (.t 14) (.t 15)⟩,⟨some 4,none,.mv (.t 16)⟩] [4,1000000,1000001]) (.ret)) (.skip))) (.seq (.region [⟨some 17,none,.mv (.t 0)⟩,⟨some 18,none,.call (.c (.fn 143 [])) [.t 17]⟩,⟨some 5,none,.mv (.t 18)⟩] [0,1,5,1000000,1000001]) (.seq (.region [⟨some 19,none,.mv (.t 0)⟩,⟨some 20,none,.call (.c (.fn 143 [])) [.t 19]⟩,⟨some 6,none,.mv (.t 20)⟩] [0,1,5,6,1000000,1000001]) (.seq (.region [⟨some 21,none,.mv (.t 0)⟩,⟨some 22,none,.call (.c (.fn 143 [])) [.t 21]⟩,⟨some 7,none,.mv (.t 22)⟩] [0,1,5,6,7,1000000,1000001]) (.seq (.region [⟨some 23,none,.mv (.t 0)⟩,⟨some 24,none,.call (.c (.fn 143 [])) [.t 23]⟩,⟨some 8,none,.mv (.t 24)⟩] [1,5,6,7,8,1000000,1000001]) (.seq (.region [⟨some 25,none,.mv (.t 5)⟩,⟨some 26,none,.bin .mul (.t 25) (.c (.d true (.int .i64 16777216)))⟩,⟨some 27,none,.mv (.t 6)⟩,⟨some 28,none,.bin .mul (.t 27) (.c (.d true (.int .i64 65536)))⟩,⟨some 29,none,.bin .add (.t 26) (.t 28)⟩,⟨some 30,none,.mv (.t 7)⟩,⟨some 31,none,.bin .mul (.t 30) (.c (.d true (.int .i64 256)))⟩,⟨some 32,none,.bin .add (.t 29) (.t 31)⟩,⟨some 33,none,.mv (.t 8)⟩,⟨some 34,none,.bin .add (.t 32) (.t 33)⟩,⟨some 35,none,.mv (.t 1)⟩,⟨some 36,none,.bin .rem (.t 34) (.t 35)⟩,⟨some 4,none,.mv (.t 36)⟩] [4,1000000,1000001]) (.ret))))))))
theorem ok98 : FnOk Tryd.prog Tryd.f98 37 keep98 ac98 [.t 4]:=by
  refine ⟨?_,?_,?_,?_,?_⟩ <;> kernel_rfl

/-! impl.clone -/
def keep99 : Nat → List Nat
  | 0 => [1,2]
  | 1 => [1,2]
  | 2 => [2]
  | _ => []
def ac99 : AC:=.seq (.region [⟨some 1,none,.box (.t 0)⟩,⟨some 2,none,.alloc [.d true (.int .i64 0),.d true (.int .i64 0),.d true (.str ⟨#[]⟩),.nil]⟩] [1,2]) (.seq (.region [⟨some 3,none,.fa 3 (.t 1)⟩,⟨some 4,none,.ld none (.t 3)⟩,⟨some 5,none,.call (.c (.fn 144 [])) [.t 4]⟩,⟨some 6,none,.fa 3 (.t 1)⟩,⟨none,none,.st 1 (.t 6) (.t 5)⟩] [1,2]) (.seq (.region [⟨some 7,none,.ld (some 4) (.t 1)⟩,⟨none,none,.st 4 (.t 2) (.t 7)⟩] [2]) (.ret)))
theorem ok99 : FnOk Tryd.prog Tryd.f99 8 keep99 ac99 [.c 2 (some 4)]:=by
  refine ⟨?_,?_,?_,?_,?_⟩ <;> kernel_rfl

/-! spec.l3Num -/
def keep100 : Nat → List Nat
  | 0 => [0,2]
  | 1 => [2]
  | _ => []
def ac100 : AC:=.seq (.region [⟨some 2,none,.alloc [.d true (.int .i64 0),.d true (.int .i64 0),.d true (.str ⟨#[]⟩),.nil]⟩] [0,2]) (.seq (.region [⟨some 3,none,.mv (.t 0)⟩,⟨some 4,none,.call (.c (.fn 113 [])) [.t 3]⟩,⟨some 5,none,.bld [.d true (.int .i64 0),.d true (.int .i64 0),.d true (.str ⟨#[]⟩),.nil] [(0,1,.c (.d true (.int .i64 2))),(2,1,.t 4)]⟩,⟨none,none,.st 4 (.t 2) (.t 5)⟩] [2]) (.ret))
theorem ok100 : FnOk Tryd.prog Tryd.f100 6 keep100 ac100 [.c 2 (some 4)]:=by
  refine ⟨?_,?_,?_,?_,?_⟩ <;> kernel_rfl

/-! spec.l1Copy -/
def keep101 : Nat → List Nat
  | 0 => [1,2]
  | 1 => [1,2,3]
  | 2 => [1,2,3,4]
  | 3 => [1,2,3,4,16]
  | 4 => [1,2,3,4]
  | 5 => [1,2,3,4]
  | 6 => [2]
  | 1000005 => [1]
  | _ => []
def ac101 : AC:=.seq (.region [⟨some 1,none,.box (.t 0)⟩,⟨some 2,none,.alloc [.d true (.int .i64 0),.d true (.int .i64 0),.d true (.str ⟨#[]⟩),.nil]⟩] [1,2]) (.seq (.region [⟨some 5,none,.fa 0 (.t 1)⟩,⟨some 6,none,.ld none (.t 5)⟩,⟨some 7,none,.fa 1 (.t 1)⟩,⟨some 8,none,.ld none (.t 7)⟩,⟨some 9,none,.fa 2 (.t 1)⟩,⟨some 10,none,.ld none (.t 9)⟩,⟨some 11,none,.bld [.d true (.int .i64 0),.d true (.int .i64 0),.d true (.str ⟨#[]⟩),.nil] [(0,1,.t 6),(1,1,.t 8),(2,1,.t 10)]⟩,⟨some 3,none,.alloc [.d true (.int .i64 0),.d true (.int .i64 0),.d true (.str ⟨#[]⟩),.nil]⟩,⟨none,none,.st 4 (.t 3) (.t 11)⟩] [1,2,3]) (.seq (.seq (.region [⟨some 4,none,.mv (.c (.d true (.int .i64 0)))⟩] [1,2,3,4]) (.block 0 (.loop (.seq (.seq (.region [⟨some 12,none,.mv (.t 4)⟩,⟨some 13,none,.fa 3 (.t 1)⟩,⟨some 14,none,.ld none (.t 13)⟩,⟨some 15,none,.len (.t 14)⟩,⟨some 16,none,.bin .lss (.t 12) (.t 15)⟩] [1,2,3,4,16]) (.cond (.t 16) (.skip) (.exit 0))) (.seq (.block 1 (.tree (.take ⟨some 19,none,.fa 3 (.t 3)⟩ (.take ⟨some 21,none,.fa 3 (.t 1)⟩ (.take ⟨some 22,none,.ld none (.t 21)⟩ (.take ⟨some 23,none,.mv (.t 4)⟩ (.take ⟨some 24,none,.ia 4 (.t 22) (.t 23)⟩ (.take ⟨some 25,none,.ld (some 4) (.t 24)⟩ (.br (.cons ⟨some 20,none,.ld none (.t 19)⟩ (.br (.cons ⟨some 26,none,.call (.c (.fn 101 [])) [.t 25]⟩ (.br (.cons ⟨some 27,none,.bs 28 4 [.t 26]⟩ (.br (.cons ⟨some 28,none,.app 28 4 56 (.t 20) (.t 27)⟩ (.take ⟨some 29,none,.fa 3 (.t 3)⟩ (.br (.cons ⟨none,none,.st 1 (.t 29) (.t 28)⟩ (.done) (.nil)))) (.nil))) (.nil))) (.nil))) (.cons ⟨some 26,none,.call (.c (.fn 101 [])) [.t 25]⟩ (.br (.cons ⟨some 20,none,.ld none (.t 19)⟩ (.br (.cons ⟨some 27,none,.bs 28 4 [.t 26]⟩ (.br (.cons ⟨some 28,none,.app 28 4 56 (.t 20) (.t 27)⟩ (.take ⟨some 29,none,.fa 3 (.t 3)⟩ (.br (.cons ⟨none,none,.st 1 (.t 29) (.t 28)⟩ (.done) (.nil)))) (.nil))) (.nil))) (.cons ⟨some 27,none,.bs 28 4 [.t 26]⟩ (.br (.cons ⟨some 20,none,.ld none (.t 19)⟩ (.br (.cons ⟨some 28,none,.app 28 4 56 (.t 20) (.t 27)⟩ (.take ⟨some 29,none,.fa 3 (.t 3)⟩ (.br (.cons ⟨none,none,.st 1 (.t 29) (.t 28)⟩ (.done) (.nil)))) (.nil))) (.nil))) (.nil)))) (.nil)))))))))) [1,2,3,4])) (.region [⟨some 17,none,.mv (.t 4)⟩,⟨some 18,none,.bin .add (.t 17) (.c (.d true (.int .i64 1)))⟩,⟨some 4,none,.mv (.t 18)⟩] [1,2,3,4])))))) (.seq (.region [⟨some 30,none,.ld (some 4) (.t 3)⟩,⟨none,none,.st 4 (.t 2) (.t 30)⟩] [2]) (.ret))))
theorem ok101 : FnOk Tryd.prog Tryd.f101 31 keep101 ac101 [.c 2 (some 4)]:=by
  refine ⟨?_,?_,?_,?_,?_⟩ <;> kernel_rfl

/-! spec.Pub -/
def keep102 : Nat → List Nat
  | 0 => [1,2]
  | 1 => [2]
  | _ => []
def ac102 : AC:=.seq (.region [⟨some 1,none,.box (.t 0)⟩,⟨some 2,none,.alloc [.d true (.int .i64 0),.d true (.int .i64 0),.d true (.str ⟨#[]⟩),.nil]⟩] [1,2]) (.seq (.region [⟨some 3,none,.ld (some 4) (.t 1)⟩,⟨some 4,none,.call (.c (.fn 101 [])) [.t 3]⟩,⟨some 5,none,.bs 28 4 [.t 4]⟩,⟨some 6,none,.bld [.d true (.int .i64 0),.d true (.int .i64 0),.d true (.str ⟨#[]⟩),.nil] [(0,1,.c (.d true (.int .i64 4))),(3,1,.t 5)]⟩,⟨some 7,none,.call (.c (.fn 145 [])) [.t 6]⟩,⟨none,none,.st 4 (.t 2) (.t 7)⟩] [2]) (.ret))
theorem ok102 : FnOk Tryd.prog Tryd.f102 8 keep102 ac102 [.c 2 (some 4)]:=by
  refine ⟨?_,?_,?_,?_,?_⟩ <;> kernel_rfl

/-! spec.l2Pub -/
def keep103 : Nat → List Nat
  | 0 => [1,2]
  | 1 => [2]
  | _ => []
def ac103 : AC:=.seq (.region [⟨some 1,none,.box (.t 0)⟩,⟨some 2,none,.alloc [.d true (.int .i64 0),.d true (.int .i64 0),.d true (.str ⟨#[]⟩),.nil]⟩] [1,2]) (.seq (.region [⟨some 3,none,.ld (some 4) (.t 1)⟩,⟨some 4,none,.bs 28 4 [.t 3]⟩,⟨some 5,none,.bld [.d true (.int .i64 0),.d true (.int .i64 0),.d true (.str ⟨#[]⟩),.nil] [(0,1,.c (.d true (.int .i64 4))),(3,1,.t 4)]⟩,⟨none,none,.st 4 (.t 2) (.t 5)⟩] [2]) (.ret))
theorem ok103 : FnOk Tryd.prog Tryd.f103 6 keep103 ac103 [.c 2 (some 4)]:=by
  refine ⟨?_,?_,?_,?_,?_⟩ <;> kernel_rfl

/-! spec.l1DrawTwo -/
/-! slices.EqualFunc[[]impl.Term,[]impl.Term,impl.Term,impl.Term] -/
def keep105 : Nat → List Nat
  | 0 => [0,1,2]
  | 1 => [0,1,2,14]
  | 2 => [6]
  | 3 => [1,2,15,16,17]
  | 4 => [1,2,15,16,17,18]
  | 5 => [1,2,7,8,15,16,17]
  | 6 => [1,2,8,9,15,16,17]
  | 7 => [1,2,15,16,17,30]
  | 8 => [6]
  | 9 => [1,2,15,16,17]
  | 10 => [6]
  | _ => []
def ac105 : AC:=.seq (.region [⟨some 6,none,.mv (.c (.d true (.bool false)))⟩] [0,1,2]) (.seq (.seq (.region [⟨some 10,none,.mv (.t 0)⟩,⟨some 11,none,.len (.t 10)⟩,⟨some 12,none,.mv (.t 1)⟩,⟨some 13,none,.len (.t 12)⟩,⟨some 14,none,.bin .neq (.t 11) (.t 13)⟩] [0,1,2,14]) (.cond (.t 14) (.seq (.region [⟨some 6,none,.mv (.c (.d true (.bool false)))⟩] [6]) (.ret)) (.skip))) (.seq (.seq (.region [⟨some 15,none,.mv (.t 0)⟩,⟨some 16,none,.len (.t 15)⟩,⟨some 17,none,.mv (.c (.d true (.int .i64 0)))⟩] [1,2,15,16,17]) (.block 0 (.loop (.seq (.region [⟨some 18,none,.bin .lss (.t 17) (.t 16)⟩] [1,2,15,16,17,18]) (.seq (.cond (.t 18) (.skip) (.exit 0)) (.seq (.block 1 (.seq (.region [⟨some 19,none,.mv (.t 17)⟩,⟨some 20,none,.ia 4 (.t 15) (.t 17)⟩,⟨some 21,none,.ld (some 4) (.t 20)⟩,⟨some 8,none,.alloc [.d true (.int .i64 0),.d true (.int .i64 0),.d true (.str ⟨#[]⟩),.nil]⟩,⟨some 7,none,.mv (.t 19)⟩,⟨none,none,.st 4 (.t 8) (.t 21)⟩] [1,2,7,8,15,16,17]) (.seq (.region [⟨some 22,none,.mv (.t 1)⟩,⟨some 23,none,.mv (.t 7)⟩,⟨some 24,none,.ia 4 (.t 22) (.t 23)⟩,⟨some 25,none,.ld (some 4) (.t 24)⟩,⟨some 9,none,.alloc [.d true (.int .i64 0),.d true (.int .i64 0),.d true (.str ⟨#[]⟩),.nil]⟩,⟨none,none,.st 4 (.t 9) (.t 25)⟩] [1,2,8,9,15,16,17]) (.seq (.region [⟨some 26,none,.mv (.t 2)⟩,⟨some 27,none,.ld (some 4) (.t 8)⟩,⟨some 28,none,.ld (some 4) (.t 9)⟩,⟨some 29,none,.call (.t 26) [.t 27,.t 28]⟩,⟨some 30,none,.not (.t 29)⟩] [1,2,15,16,17,30]) (.cond (.t 30) (.seq (.region [⟨some 6,none,.mv (.c (.d true (.bool false)))⟩] [6]) (.ret)) (.skip)))))) (.region [⟨some 31,none,.bin .add (.t 17) (.c (.d true (.int .i64 1)))⟩,⟨some 17,none,.mv (.t 31)⟩] [1,2,15,16,17]))))))) (.seq (.region [⟨some 6,none,.mv (.c (.d true (.bool true)))⟩] [6]) (.ret))))
theorem ok105 : FnOk Tryd.prog Tryd.f105 32 keep105 ac105 [.t 6]:=by
  refine ⟨?_,?_,?_,?_,?_⟩ <;> kernel_rfl

/-! spec.l3Two -/
def keep106 : Nat → List Nat
  | 0 => [0,4,5,6]
  | 1 => [6]
  | 1000001 => [1]
  | _ => []
def ac106 : AC:=.seq (.region [⟨some 4,none,.box (.t 1)⟩,⟨some 5,none,.box (.t 2)⟩,⟨some 6,none,.alloc [.d true (.int .i64 0),.d true (.int .i64 0),.d true (.str ⟨#[]⟩),.nil]⟩] [0,4,5,6]) (.seq (.tree (.take ⟨some 7,none,.mv (.t 0)⟩ (.take ⟨some 8,none,.ld (some 4) (.t 4)⟩ (.take ⟨some 10,none,.ld (some 4) (.t 5)⟩ (.br (.cons ⟨some 9,none,.call (.c (.fn 101 [])) [.t 8]⟩ (.br (.cons ⟨some 11,none,.call (.c (.fn 101 [])) [.t 10]⟩ (.br (.cons ⟨some 12,none,.bs 28 4 [.t 9,.t 11]⟩ (.take ⟨some 13,none,.bld [.d true (.int .i64 0),.d true (.int .i64 0),.d true (.str ⟨#[]⟩),.nil] [(0,1,.t 7),(3,1,.t 12)]⟩ (.br (.cons ⟨some 14,none,.call (.c (.fn 145 [])) [.t 13]⟩ (.br (.cons ⟨none,none,.st 4 (.t 6) (.t 14)⟩ (.done) (.nil))) (.nil)))) (.nil))) (.nil))) (.nil)))))) [6]) (.ret))
theorem ok106 : FnOk Tryd.prog Tryd.f106 15 keep106 ac106 [.c 6 (some 4)]:=by
  refine ⟨?_,?_,?_,?_,?_⟩ <;> kernel_rfl

/-! spec.Pair -/
def keep107 : Nat → List Nat
  | 0 => [2,3,4]
  | 1 => [4]
  | _ => []
def ac107 : AC:=.seq (.region [⟨some 2,none,.box (.t 0)⟩,⟨some 3,none,.box (.t 1)⟩,⟨some 4,none,.alloc [.d true (.int .i64 0),.d true (.int .i64 0),.d true (.str ⟨#[]⟩),.nil]⟩] [2,3,4]) (.seq (.region [⟨some 5,none,.ld (some 4) (.t 2)⟩,⟨some 6,none,.ld (some 4) (.t 3)⟩,⟨some 7,none,.call (.c (.fn 106 [])) [.c (.d true (.int .i64 3)),.t 5,.t 6]⟩,⟨none,none,.st 4 (.t 4) (.t 7)⟩] [4]) (.ret))
theorem ok107 : FnOk Tryd.prog Tryd.f107 8 keep107 ac107 [.c 4 (some 4)]:=by
  refine ⟨?_,?_,?_,?_,?_⟩ <;> kernel_rfl

/-! spec.Hash -/
def keep108 : Nat → List Nat
  | 0 => [1,2]
  | 1 => [2]
  | _ => []
def ac108 : AC:=.seq (.region [⟨some 1,none,.box (.t 0)⟩,⟨some 2,none,.alloc [.d true (.int .i64 0),.d true (.int .i64 0),.d true (.str ⟨#[]⟩),.nil]⟩] [1,2]) (.seq (.region [⟨some 3,none,.ld (some 4) (.t 1)⟩,⟨some 4,none,.call (.c (.fn 101 [])) [.t 3]⟩,⟨some 5,none,.bs 28 4 [.t 4]⟩,⟨some 6,none,.bld [.d true (.int .i64 0),.d true (.int .i64 0),.d true (.str ⟨#[]⟩),.nil] [(0,1,.c (.d true (.int .i64 6))),(3,1,.t 5)]⟩,⟨some 7,none,.call (.c (.fn 145 [])) [.t 6]⟩,⟨none,none,.st 4 (.t 2) (.t 7)⟩] [2]) (.ret))
theorem ok108 : FnOk Tryd.prog Tryd.f108 8 keep108 ac108 [.c 2 (some 4)]:=by
  refine ⟨?_,?_,?_,?_,?_⟩ <;> kernel_rfl

/-! impl.formOk -/
def keep109 : Nat → List Nat
  | 0 => [1]
  | 1 => [1,14]
  | 2 => [2]
  | 3 => [1,16]
  | 4 => [1,16,17]
  | 5 => [2]
  | 6 => [1,16,27]
  | 7 => [2]
  | 8 => [1,38]
  | 9 => [2]
  | 10 => [2]
  | _ => []
def ac109 : AC:=.seq (.region [⟨some 1,none,.box (.t 0)⟩,⟨some 2,none,.mv (.c (.d true (.bool false)))⟩] [1]) (.seq (.seq (.draw [⟨some 3,none,.fa 3 (.t 1)⟩,⟨some 4,none,.ld none (.t 3)⟩,⟨some 5,none,.len (.t 4)⟩,⟨some 6,none,.fa 0 (.t 1)⟩,⟨some 7,none,.ld none (.t 6)⟩,⟨some 8,none,.call (.c (.fn 146 [])) [.t 7]⟩,⟨some 9,none,.bin .neq (.t 5) (.t 8)⟩,⟨some 10,none,.mv (.t 9)⟩,⟨some 11,some (10,false),.fa 3 (.t 1)⟩,⟨some 12,some (10,false),.ld none (.t 11)⟩,⟨some 13,some (10,false),.call (.c (.fn 147 [])) [.t 12,.c (.fn 148 [])]⟩,⟨some 14,none,.pick (.t 10) (.c (.d true (.bool true))) (.t 13)⟩] [1,14]) (.cond (.t 14) (.seq (.region [⟨some 2,none,.mv (.c (.d true (.bool false)))⟩] [2]) (.ret)) (.skip))) (.seq (.seq (.region [⟨some 15,none,.fa 0 (.t 1)⟩,⟨some 16,none,.ld none (.t 15)⟩] [1,16]) (.block 0 (.seq (.region [⟨some 18,none,.bin .eql (.t 16) (.c (.d true (.int .i64 1)))⟩,⟨some 17,none,.mv (.t 18)⟩] [1,16,17]) (.cond (.t 17) (.seq (.region [⟨some 19,none,.fa 1 (.t 1)⟩,⟨some 20,none,.ld none (.t 19)⟩,⟨some 21,none,.call (.c (.fn 149 [])) [.t 20,.c (.d true (.int .i64 0)),.c (.d true (.int .i64 1000000))]⟩,⟨some 22,none,.mv (.t 21)⟩,⟨some 23,some (22,true),.fa 2 (.t 1)⟩,⟨some 24,some (22,true),.ld none (.t 23)⟩,⟨some 25,some (22,true),.bin .eql (.t 24) (.c (.d true (.str ⟨#[]⟩)))⟩,⟨some 26,none,.pick (.t 22) (.t 25) (.c (.d true (.bool false)))⟩,⟨some 2,none,.mv (.t 26)⟩] [2]) (.ret)) (.seq (.region [⟨some 28,none,.bin .eql (.t 16) (.c (.d true (.int .i64 2)))⟩,⟨some 27,none,.mv (.t 28)⟩] [1,16,27]) (.cond (.t 27) (.seq (.region [⟨some 29,none,.fa 1 (.t 1)⟩,⟨some 30,none,.ld none (.t 29)⟩,⟨some 31,none,.bin .eql (.t 30) (.c (.d true (.int .i64 0)))⟩,⟨some 32,none,.mv (.t 31)⟩,⟨some 33,some (32,true),.fa 2 (.t 1)⟩,⟨some 34,some (32,true),.ld none (.t 33)⟩,⟨some 35,some (32,true),.slen (.t 34)⟩,⟨some 36,some (32,true),.bin .leq (.t 35) (.c (.d true (.int .i64 300)))⟩,⟨some 37,none,.pick (.t 32) (.t 36) (.c (.d true (.bool false)))⟩,⟨some 2,none,.mv (.t 37)⟩] [2]) (.ret)) (.seq (.region [⟨some 39,none,.bin .eql (.t 16) (.c (.d true (.int .i64 5)))⟩,⟨some 38,none,.mv (.t 39)⟩] [1,38]) (.cond (.t 38) (.seq (.draw [⟨some 40,none,.fa 1 (.t 1)⟩,⟨some 41,none,.ld none (.t 40)⟩,⟨some 42,none,.bin .eql (.t 41) (.c (.d true (.int .i64 0)))⟩,⟨some 43,none,.mv (.t 42)⟩,⟨some 44,some (43,true),.fa 2 (.t 1)⟩,⟨some 45,some (43,true),.ld none (.t 44)⟩,⟨some 46,some (43,true),.bin .eql (.t 45) (.c (.d true (.str ⟨#[]⟩)))⟩,⟨some 47,none,.pick (.t 43) (.t 46) (.c (.d true (.bool false)))⟩,⟨some 48,none,.mv (.t 47)⟩,⟨some 49,some (48,true),.fa 3 (.t 1)⟩,⟨some 50,some (48,true),.ld none (.t 49)⟩,⟨some 51,some (48,true),.ia 4 (.t 50) (.c (.d true (.int .i64 1)))⟩,⟨some 52,some (48,true),.ld (some 4) (.t 51)⟩,⟨some 53,some (48,true),.fa 3 (.t 1)⟩,⟨some 54,some (48,true),.ld none (.t 53)⟩,⟨some 55,some (48,true),.ia 4 (.t 54) (.c (.d true (.int .i64 0)))⟩,⟨some 56,some (48,true),.ld (some 4) (.t 55)⟩,⟨some 57,some (48,true),.call (.c (.fn 52 [])) [.t 52,.t 56]⟩,⟨some 58,some (48,true),.not (.t 57)⟩,⟨some 59,none,.pick (.t 48) (.t 58) (.c (.d true (.bool false)))⟩,⟨some 2,none,.mv (.t 59)⟩] [2]) (.ret)) (.skip))))))))) (.seq (.region [⟨some 60,none,.fa 1 (.t 1)⟩,⟨some 61,none,.ld none (.t 60)⟩,⟨some 62,none,.bin .eql (.t 61) (.c (.d true (.int .i64 0)))⟩,⟨some 63,none,.mv (.t 62)⟩,⟨some 64,some (63,true),.fa 2 (.t 1)⟩,⟨some 65,some (63,true),.ld none (.t 64)⟩,⟨some 66,some (63,true),.bin .eql (.t 65) (.c (.d true (.str ⟨#[]⟩)))⟩,⟨some 67,none,.pick (.t 63) (.t 66) (.c (.d true (.bool false)))⟩,⟨some 2,none,.mv (.t 67)⟩] [2]) (.ret))))
theorem ok109 : FnOk Tryd.prog Tryd.f109 68 keep109 ac109 [.t 2]:=by
  refine ⟨?_,?_,?_,?_,?_⟩ <;> kernel_rfl

/-! spec.l1Right -/
def keep110 : Nat → List Nat
  | 0 => [1]
  | 1 => [1,42]
  | 2 => [2]
  | 3 => [1,3]
  | 4 => [1,3,47]
  | 5 => [1,3]
  | 6 => [1,3,56]
  | 7 => [2]
  | 8 => [2]
  | _ => []
def ac110 : AC:=.seq (.region [⟨some 1,none,.box (.t 0)⟩,⟨some 2,none,.mv (.c (.d true (.bool false)))⟩] [1]) (.seq (.seq (.draw [⟨some 4,none,.fa 0 (.t 1)⟩,⟨some 5,none,.ld none (.t 4)⟩,⟨some 6,none,.call (.c (.fn 150 [])) [.t 5]⟩,⟨some 7,none,.fa 3 (.t 1)⟩,⟨some 8,none,.ld none (.t 7)⟩,⟨some 9,none,.len (.t 8)⟩,⟨some 10,none,.bin .neq (.t 6) (.t 9)⟩,⟨some 11,none,.mv (.t 10)⟩,⟨some 12,some (11,false),.fa 0 (.t 1)⟩,⟨some 13,some (11,false),.ld none (.t 12)⟩,⟨some 14,some (11,false),.bin .neq (.t 13) (.c (.d true (.int .i64 1)))⟩,⟨some 15,some (11,false),.mv (.t 14)⟩,⟨some 16,some (15,true),.fa 1 (.t 1)⟩,⟨some 17,some (15,true),.ld none (.t 16)⟩,⟨some 18,some (15,true),.bin .neq (.t 17) (.c (.d true (.int .i64 0)))⟩,⟨some 19,some (11,false),.pick (.t 15) (.t 18) (.c (.d true (.bool false)))⟩,⟨some 20,none,.pick (.t 11) (.c (.d true (.bool true))) (.t 19)⟩,⟨some 21,none,.mv (.t 20)⟩,⟨some 22,some (21,false),.fa 0 (.t 1)⟩,⟨some 23,some (21,false),.ld none (.t 22)⟩,⟨some 24,some (21,false),.bin .neq (.t 23) (.c (.d true (.int .i64 2)))⟩,⟨some 25,some (21,false),.mv (.t 24)⟩,⟨some 26,some (25,true),.fa 2 (.t 1)⟩,⟨some 27,some (25,true),.ld none (.t 26)⟩,⟨some 28,some (25,true),.bin .neq (.t 27) (.c (.d true (.str ⟨#[]⟩)))⟩,⟨some 29,some (21,false),.pick (.t 25) (.t 28) (.c (.d true (.bool false)))⟩,⟨some 30,none,.pick (.t 21) (.c (.d true (.bool true))) (.t 29)⟩,⟨some 31,none,.mv (.t 30)⟩,⟨some 32,some (31,false),.fa 1 (.t 1)⟩,⟨some 33,some (31,false),.ld none (.t 32)⟩,⟨some 34,some (31,false),.call (.c (.fn 114 [])) [.t 33,.c (.d true (.int .i64 0)),.c (.d true (.int .i64 1000000))]⟩,⟨some 35,some (31,false),.not (.t 34)⟩,⟨some 36,none,.pick (.t 31) (.c (.d true (.bool true))) (.t 35)⟩,⟨some 37,none,.mv (.t 36)⟩,⟨some 38,some (37,false),.fa 2 (.t 1)⟩,⟨some 39,some (37,false),.ld none (.t 38)⟩,⟨some 40,some (37,false),.slen (.t 39)⟩,⟨some 41,some (37,false),.bin .gtr (.t 40) (.c (.d true (.int .i64 300)))⟩,⟨some 42,none,.pick (.t 37) (.c (.d true (.bool true))) (.t 41)⟩] [1,42]) (.cond (.t 42) (.seq (.region [⟨some 2,none,.mv (.c (.d true (.bool false)))⟩] [2]) (.ret)) (.skip))) (.seq (.seq (.region [⟨some 3,none,.mv (.c (.d true (.int .i64 0)))⟩] [1,3]) (.block 0 (.loop (.seq (.seq (.region [⟨some 43,none,.mv (.t 3)⟩,⟨some 44,none,.fa 3 (.t 1)⟩,⟨some 45,none,.ld none (.t 44)⟩,⟨some 46,none,.len (.t 45)⟩,⟨some 47,none,.bin .lss (.t 43) (.t 46)⟩] [1,3,47]) (.cond (.t 47) (.skip) (.exit 0))) (.seq (.block 1 (.seq (.region [⟨some 50,none,.fa 3 (.t 1)⟩,⟨some 51,none,.ld none (.t 50)⟩,⟨some 52,none,.mv (.t 3)⟩,⟨some 53,none,.ia 4 (.t 51) (.t 52)⟩,⟨some 54,none,.ld (some 4) (.t 53)⟩,⟨some 55,none,.call (.c (.fn 110 [])) [.t 54]⟩,⟨some 56,none,.not (.t 55)⟩] [1,3,56]) (.cond (.t 56) (.seq (.region [⟨some 2,none,.mv (.c (.d true (.bool false)))⟩] [2]) (.ret)) (.skip)))) (.region [⟨some 48,none,.mv (.t 3)⟩,⟨some 49,none,.bin .add (.t 48) (.c (.d true (.int .i64 1)))⟩,⟨some 3,none,.mv (.t 49)⟩] [1,3])))))) (.seq (.draw [⟨some 57,none,.fa 0 (.t 1)⟩,⟨some 58,none,.ld none (.t 57)⟩,⟨some 59,none,.bin .neq (.t 58) (.c (.d true (.int .i64 5)))⟩,⟨some 60,none,.mv (.t 59)⟩,⟨some 61,some (60,false),.fa 3 (.t 1)⟩,⟨some 62,some (60,false),.ld none (.t 61)⟩,⟨some 63,some (60,false),.ia 4 (.t 62) (.c (.d true (.int .i64 1)))⟩,⟨some 64,some (60,false),.ld (some 4) (.t 63)⟩,⟨some 65,some (60,false),.fa 3 (.t 1)⟩,⟨some 66,some (60,false),.ld none (.t 65)⟩,⟨some 67,some (60,false),.ia 4 (.t 66) (.c (.d true (.int .i64 0)))⟩,⟨some 68,some (60,false),.ld (some 4) (.t 67)⟩,⟨some 69,some (60,false),.call (.c (.fn 53 [])) [.t 64,.t 68]⟩,⟨some 70,some (60,false),.not (.t 69)⟩,⟨some 71,none,.pick (.t 60) (.c (.d true (.bool true))) (.t 70)⟩,⟨some 2,none,.mv (.t 71)⟩] [2]) (.ret))))
theorem ok110 : FnOk Tryd.prog Tryd.f110 72 keep110 ac110 [.t 2]:=by
  refine ⟨?_,?_,?_,?_,?_⟩ <;> kernel_rfl

/-! spec.l1Digits -/
def keep113 : Nat → List Nat
  | 0 => [0]
  | 1 => [0,7]
  | 2 => [2]
  | 3 => [0,3]
  | 4 => [0,3,4]
  | 5 => [0,3,4,11]
  | 6 => [0,3,4,5]
  | 7 => [0,3,4,5,15]
  | 8 => [0,3,4,5]
  | 9 => [0,3,4]
  | 10 => [0,3,4]
  | 11 => [4,27]
  | 12 => [2]
  | 13 => [2]
  | _ => []
def ac113 : AC:=.seq (.region [⟨some 2,none,.mv (.c (.d true (.str ⟨#[]⟩)))⟩] [0]) (.seq (.seq (.region [⟨some 6,none,.mv (.t 0)⟩,⟨some 7,none,.bin .eql (.t 6) (.c (.d true (.int .i64 0)))⟩] [0,7]) (.cond (.t 7) (.seq (.region [⟨some 2,none,.mv (.c (.d true (.str ⟨#[48]⟩)))⟩] [2]) (.ret)) (.skip))) (.seq (.region [⟨some 8,none,.mv (.t 0)⟩,⟨some 9,none,.bin .lss (.t 8) (.c (.d true (.int .i64 0)))⟩,⟨some 3,none,.mv (.t 9)⟩] [0,3]) (.seq (.region [⟨some 4,none,.mv (.c (.d true (.str ⟨#[]⟩)))⟩] [0,3,4]) (.seq (.block 0 (.loop (.seq (.seq (.region [⟨some 10,none,.mv (.t 0)⟩,⟨some 11,none,.bin .neq (.t 10) (.c (.d true (.int .i64 0)))⟩] [0,3,4,11]) (.cond (.t 11) (.skip) (.exit 0))) (.block 1 (.seq (.region [⟨some 12,none,.mv (.t 0)⟩,⟨some 13,none,.bin .rem (.t 12) (.c (.d true (.int .i64 10)))⟩,⟨some 5,none,.mv (.t 13)⟩] [0,3,4,5]) (.seq (.seq (.region [⟨some 14,none,.mv (.t 5)⟩,⟨some 15,none,.bin .lss (.t 14) (.c (.d true (.int .i64 0)))⟩] [0,3,4,5,15]) (.cond (.t 15) (.region [⟨some 16,none,.mv (.t 5)⟩,⟨some 17,none,.bin .sub (.c (.d true (.int .i64 0))) (.t 16)⟩,⟨some 5,none,.mv (.t 17)⟩] [0,3,4,5]) (.skip))) (.seq (.region [⟨some 18,none,.mv (.t 5)⟩,⟨some 19,none,.bin .add (.c (.d true (.int .i64 48))) (.t 18)⟩,⟨some 20,none,.cvi .u8 (.t 19)⟩,⟨some 21,none,.bs 5 1 [.t 20]⟩,⟨some 22,none,.bstr (.t 21)⟩,⟨some 23,none,.mv (.t 4)⟩,⟨some 24,none,.bin .add (.t 22) (.t 23)⟩,⟨some 4,none,.mv (.t 24)⟩] [0,3,4]) (.region [⟨some 25,none,.mv (.t 0)⟩,⟨some 26,none,.bin .quo (.t 25) (.c (.d true (.int .i64 10)))⟩,⟨some 0,none,.mv (.t 26)⟩] [0,3,4])))))))) (.seq (.seq (.region [⟨some 27,none,.mv (.t 3)⟩] [4,27]) (.cond (.t 27) (.seq (.region [⟨some 28,none,.mv (.t 4)⟩,⟨some 29,none,.bin .add (.c (.d true (.str ⟨#[45]⟩))) (.t 28)⟩,⟨some 2,none,.mv (.t 29)⟩] [2]) (.ret)) (.skip))) (.seq (.region [⟨some 30,none,.mv (.t 4)⟩,⟨some 2,none,.mv (.t 30)⟩] [2]) (.ret)))))))
theorem ok113 : FnOk Tryd.prog Tryd.f113 31 keep113 ac113 [.t 2]:=by
  refine ⟨?_,?_,?_,?_,?_⟩ <;> kernel_rfl

/-! spec.l1In -/
def keep114 : Nat → List Nat
  | 0 => [0,1,2]
  | 1 => [6]
  | _ => []
def ac114 : AC:=.seq (.region [⟨some 6,none,.mv (.c (.d true (.bool false)))⟩] [0,1,2]) (.seq (.region [⟨some 7,none,.mv (.t 0)⟩,⟨some 8,none,.mv (.t 1)⟩,⟨some 9,none,.bin .geq (.t 7) (.t 8)⟩,⟨some 10,none,.mv (.t 9)⟩,⟨some 11,some (10,true),.mv (.t 0)⟩,⟨some 12,some (10,true),.mv (.t 2)⟩,⟨some 13,some (10,true),.bin .leq (.t 11) (.t 12)⟩,⟨some 14,none,.pick (.t 10) (.t 13) (.c (.d true (.bool false)))⟩,⟨some 6,none,.mv (.t 14)⟩] [6]) (.ret))
theorem ok114 : FnOk Tryd.prog Tryd.f114 15 keep114 ac114 [.t 6]:=by
  refine ⟨?_,?_,?_,?_,?_⟩ <;> kernel_rfl

/-! laws.szStringS -/
/-! spec.PolicyOk -/
/-! laws.toStringS -/
/-! impl.PolicyOk -/
/-! impl.isTime -/
/-! impl.modes -/
/-! laws.eqStringS -/
/-! laws.szTerm -/
/-! spec.CertOk -/
/-! spec.Atom -/
/-! laws.toTerm -/
/-! impl.CertOk -/
/-! impl.text -/
def keep127 : Nat → List Nat
  | 0 => [0,2]
  | 1 => [2]
  | _ => []
def ac127 : AC:=.seq (.region [⟨some 2,none,.alloc [.d true (.int .i64 0),.d true (.int .i64 0),.d true (.str ⟨#[]⟩),.nil]⟩] [0,2]) (.seq (.region [⟨some 3,none,.mv (.t 0)⟩,⟨some 4,none,.bld [.d true (.int .i64 0),.d true (.int .i64 0),.d true (.str ⟨#[]⟩),.nil] [(0,1,.c (.d true (.int .i64 2))),(2,1,.t 3)]⟩,⟨none,none,.st 4 (.t 2) (.t 4)⟩] [2]) (.ret))
theorem ok127 : FnOk Tryd.prog Tryd.f127 5 keep127 ac127 [.c 2 (some 4)]:=by
  refine ⟨?_,?_,?_,?_,?_⟩ <;> kernel_rfl

/-! laws.eqTermS -/
/-! laws.markTermS -/
/-! laws.heldTermS -/
/-! impl.hasTerm -/
def keep131 : Nat → List Nat
  | 0 => [0,3]
  | 1 => [4]
  | _ => []
def ac131 : AC:=.seq (.region [⟨some 3,none,.box (.t 1)⟩,⟨some 4,none,.mv (.c (.d true (.bool false)))⟩] [0,3]) (.seq (.region [⟨some 5,none,.mv (.t 0)⟩,⟨some 6,none,.mkf 161 [.t 3]⟩,⟨some 7,none,.call (.c (.fn 147 [])) [.t 5,.t 6]⟩,⟨some 4,none,.mv (.t 7)⟩] [4]) (.ret))
theorem ok131 : FnOk Tryd.prog Tryd.f131 8 keep131 ac131 [.t 4]:=by
  refine ⟨?_,?_,?_,?_,?_⟩ <;> kernel_rfl

/-! spec.l2Has -/
def keep132 : Nat → List Nat
  | 0 => [0,3]
  | 1 => [0,3,5]
  | 2 => [0,3,5,9]
  | 3 => [0,3,5]
  | 4 => [0,3,5,17]
  | 5 => [4]
  | 6 => [4]
  | _ => []
def ac132 : AC:=.seq (.region [⟨some 3,none,.box (.t 1)⟩,⟨some 4,none,.mv (.c (.d true (.bool false)))⟩] [0,3]) (.seq (.seq (.region [⟨some 5,none,.mv (.c (.d true (.int .i64 0)))⟩] [0,3,5]) (.block 0 (.loop (.seq (.seq (.region [⟨some 6,none,.mv (.t 5)⟩,⟨some 7,none,.mv (.t 0)⟩,⟨some 8,none,.len (.t 7)⟩,⟨some 9,none,.bin .lss (.t 6) (.t 8)⟩] [0,3,5,9]) (.cond (.t 9) (.skip) (.exit 0))) (.seq (.block 1 (.seq (.draw [⟨some 12,none,.mv (.t 0)⟩,⟨some 13,none,.mv (.t 5)⟩,⟨some 14,none,.ia 4 (.t 12) (.t 13)⟩,⟨some 15,none,.ld (some 4) (.t 14)⟩,⟨some 16,none,.ld (some 4) (.t 3)⟩,⟨some 17,none,.call (.c (.fn 54 [])) [.t 15,.t 16]⟩] [0,3,5,17]) (.cond (.t 17) (.seq (.region [⟨some 4,none,.mv (.c (.d true (.bool true)))⟩] [4]) (.ret)) (.skip)))) (.region [⟨some 10,none,.mv (.t 5)⟩,⟨some 11,none,.bin .add (.t 10) (.c (.d true (.int .i64 1)))⟩,⟨some 5,none,.mv (.t 11)⟩] [0,3,5])))))) (.seq (.region [⟨some 4,none,.mv (.c (.d true (.bool false)))⟩] [4]) (.ret)))
theorem ok132 : FnOk Tryd.prog Tryd.f132 18 keep132 ac132 [.t 4]:=by
  refine ⟨?_,?_,?_,?_,?_⟩ <;> kernel_rfl

/-! impl.made -/
def keep133 : Nat → List Nat
  | 0 => [2,3]
  | 1 => [2,3,7]
  | 2 => [4]
  | 3 => [2,3,16]
  | 4 => [4]
  | 5 => [2,3,20]
  | 6 => [2,5,6]
  | 7 => [4]
  | 8 => [4]
  | 1000006 => [1]
  | _ => []
def ac133 : AC:=.seq (.region [⟨some 2,none,.box (.t 0)⟩,⟨some 3,none,.box (.t 1)⟩,⟨some 4,none,.mv (.c (.d true (.bool false)))⟩] [2,3]) (.seq (.block 0 (.seq (.region [⟨some 8,none,.fa 0 (.t 3)⟩,⟨some 9,none,.ld none (.t 8)⟩,⟨some 10,none,.bin .eql (.t 9) (.c (.d true (.int .i64 2)))⟩,⟨some 11,none,.mv (.t 10)⟩,⟨some 12,some (11,false),.ld none (.t 2)⟩,⟨some 13,some (11,false),.ld (some 4) (.t 3)⟩,⟨some 14,some (11,false),.call (.c (.fn 131 [])) [.t 12,.t 13]⟩,⟨some 15,none,.pick (.t 11) (.c (.d true (.bool true))) (.t 14)⟩,⟨some 7,none,.mv (.t 15)⟩] [2,3,7]) (.cond (.t 7) (.seq (.region [⟨some 4,none,.mv (.c (.d true (.bool true)))⟩] [4]) (.ret)) (.seq (.region [⟨some 17,none,.fa 0 (.t 3)⟩,⟨some 18,none,.ld none (.t 17)⟩,⟨some 19,none,.bin .eql (.t 18) (.c (.d true (.int .i64 1)))⟩,⟨some 16,none,.mv (.t 19)⟩] [2,3,16]) (.cond (.t 16) (.seq (.region [⟨some 4,none,.mv (.c (.d true (.bool false)))⟩] [4]) (.ret)) (.seq (.region [⟨some 21,none,.fa 0 (.t 3)⟩,⟨some 22,none,.ld none (.t 21)⟩,⟨some 23,none,.bin .eql (.t 22) (.c (.d true (.int .i64 5)))⟩,⟨some 20,none,.mv (.t 23)⟩] [2,3,20]) (.cond (.t 20) (.seq (.tree (.take ⟨some 24,none,.fa 3 (.t 3)⟩ (.take ⟨some 25,none,.ld none (.t 24)⟩ (.take ⟨some 26,none,.ia 4 (.t 25) (.c (.d true (.int .i64 0)))⟩ (.take ⟨some 27,none,.ld (some 4) (.t 26)⟩ (.take ⟨some 28,none,.fa 3 (.t 3)⟩ (.take ⟨some 29,none,.ld none (.t 28)⟩ (.take ⟨some 30,none,.ia 4 (.t 29) (.c (.d true (.int .i64 1)))⟩ (.take ⟨some 31,none,.ld (some 4) (.t 30)⟩ (.br (.cons ⟨some 5,none,.alloc [.d true (.int .i64 0),.d true (.int .i64 0),.d true (.str ⟨#[]⟩),.nil]⟩ (.br (.cons ⟨some 6,none,.alloc [.d true (.int .i64 0),.d true (.int .i64 0),.d true (.str ⟨#[]⟩),.nil]⟩ (.br (.cons ⟨none,none,.st 4 (.t 5) (.t 27)⟩ (.br (.cons ⟨none,none,.st 4 (.t 6) (.t 31)⟩ (.done) (.nil))) (.nil))) (.nil))) (.cons ⟨some 6,none,.alloc [.d true (.int .i64 0),.d true (.int .i64 0),.d true (.str ⟨#[]⟩),.nil]⟩ (.br (.cons ⟨some 5,none,.alloc [.d true (.int .i64 0),.d true (.int .i64 0),.d true (.str ⟨#[]⟩),.nil]⟩ (.br (.cons ⟨none,none,.st 4 (.t 5) (.t 27)⟩ (.br (.cons ⟨none,none,.st 4 (.t 6) (.t 31)⟩ (.done) (.nil))) (.nil))) (.nil))) (.nil)))))))))))) [2,5,6]) (.seq (.region [⟨some 32,none,.ld none (.t 2)⟩,⟨some 33,none,.ld (some 4) (.t 5)⟩,⟨some 34,none,.call (.c (.fn 133 [])) [.t 32,.t 33]⟩,⟨some 35,none,.mv (.t 34)⟩,⟨some 36,some (35,true),.ld none (.t 2)⟩,⟨some 37,some (35,true),.ld (some 4) (.t 6)⟩,⟨some 38,some (35,true),.call (.c (.fn 162 [])) [.t 36,.t 37]⟩,⟨some 39,none,.pick (.t 35) (.t 38) (.c (.d true (.bool false)))⟩,⟨some 40,none,.mv (.t 39)⟩,⟨some 41,some (40,false),.ld none (.t 2)⟩,⟨some 42,some (40,false),.ld (some 4) (.t 6)⟩,⟨some 43,some (40,false),.call (.c (.fn 133 [])) [.t 41,.t 42]⟩,⟨some 44,some (40,false),.mv (.t 43)⟩,⟨some 45,some (44,true),.ld none (.t 2)⟩,⟨some 46,some (44,true),.ld (some 4) (.t 5)⟩,⟨some 47,some (44,true),.call (.c (.fn 162 [])) [.t 45,.t 46]⟩,⟨some 48,some (40,false),.pick (.t 44) (.t 47) (.c (.d true (.bool false)))⟩,⟨some 49,none,.pick (.t 40) (.c (.d true (.bool true))) (.t 48)⟩,⟨some 4,none,.mv (.t 49)⟩] [4]) (.ret))) (.skip)))))))) (.seq (.region [⟨some 50,none,.fa 3 (.t 3)⟩,⟨some 51,none,.ld none (.t 50)⟩,⟨some 52,none,.mkf 163 [.t 2]⟩,⟨some 53,none,.call (.c (.fn 147 [])) [.t 51,.t 52]⟩,⟨some 54,none,.not (.t 53)⟩,⟨some 4,none,.mv (.t 54)⟩] [4]) (.ret)))
theorem ok133 : FnOk Tryd.prog Tryd.f133 55 keep133 ac133 [.t 4]:=by
  refine ⟨?_,?_,?_,?_,?_⟩ <;> kernel_rfl

/-! spec.l1Pick -/
def keep134 : Nat → List Nat
  | 0 => [0,1,1000000,1000001]
  | 1 => [4,1000000,1000001]
  | _ => []
def ac134 : AC:=.seq (.region [⟨some 4,none,.mv (.c (.d true (.str ⟨#[]⟩)))⟩] [0,1,1000000,1000001]) (.seq (.region [⟨some 5,none,.mv (.t 1)⟩,⟨some 6,none,.mv (.t 0)⟩,⟨some 7,none,.mv (.t 1)⟩,⟨some 8,none,.len (.t 7)⟩,⟨some 9,none,.call (.c (.fn 98 [])) [.t 6,.t 8]⟩,⟨some 10,none,.ia 1 (.t 5) (.t 9)⟩,⟨some 11,none,.ld none (.t 10)⟩,⟨some 4,none,.mv (.t 11)⟩] [4,1000000,1000001]) (.ret))
theorem ok134 : FnOk Tryd.prog Tryd.f134 12 keep134 ac134 [.t 4]:=by
  refine ⟨?_,?_,?_,?_,?_⟩ <;> kernel_rfl

/-! slices.ContainsFunc[[]string,string] -/
/-! impl.labelsOk$1 -/
/-! impl.labelOk -/
/-! spec.l5Label -/
/-! spec.Agree -/
def keep142 : Nat → List Nat
  | 0 => [2,3,4]
  | 1 => [2,3,4,22]
  | 2 => [4,5]
  | 3 => [4,6,7]
  | 4 => [4,6,7,31]
  | 5 => [4,6,7]
  | 6 => [4,8]
  | 7 => [4,5]
  | 1000003 => [1]
  | 1000007 => [1]
  | _ => []
def ac142 : AC:=.seq (.region [⟨some 2,none,.box (.t 0)⟩,⟨some 3,none,.box (.t 1)⟩,⟨some 4,none,.alloc [.d true (.int .i64 0),.d true (.int .i64 0),.d true (.str ⟨#[]⟩),.nil]⟩,⟨some 5,none,.mv (.c (.d true (.bool false)))⟩] [2,3,4]) (.seq (.seq (.region [⟨some 9,none,.fa 0 (.t 3)⟩,⟨some 10,none,.ld none (.t 9)⟩,⟨some 11,none,.bin .neq (.t 10) (.c (.d true (.int .i64 4)))⟩,⟨some 12,none,.mv (.t 11)⟩,⟨some 13,some (12,false),.fa 3 (.t 3)⟩,⟨some 14,some (12,false),.ld none (.t 13)⟩,⟨some 15,some (12,false),.len (.t 14)⟩,⟨some 16,some (12,false),.bin .neq (.t 15) (.c (.d true (.int .i64 1)))⟩,⟨some 17,none,.pick (.t 12) (.c (.d true (.bool true))) (.t 16)⟩,⟨some 18,none,.mv (.t 17)⟩,⟨some 19,some (18,false),.ld (some 4) (.t 3)⟩,⟨some 20,some (18,false),.call (.c (.fn 56 [])) [.t 19]⟩,⟨some 21,some (18,false),.not (.t 20)⟩,⟨some 22,none,.pick (.t 18) (.c (.d true (.bool true))) (.t 21)⟩] [2,3,4,22]) (.cond (.t 22) (.seq (.region [⟨some 23,none,.bld [.d true (.int .i64 0),.d true (.int .i64 0),.d true (.str ⟨#[]⟩),.nil] []⟩,⟨none,none,.st 4 (.t 4) (.t 23)⟩,⟨some 5,none,.mv (.c (.d true (.bool false)))⟩] [4,5]) (.ret)) (.skip))) (.seq (.tree (.take ⟨some 24,none,.ld (some 4) (.t 2)⟩ (.take ⟨some 25,none,.fa 3 (.t 3)⟩ (.take ⟨some 26,none,.ld none (.t 25)⟩ (.take ⟨some 27,none,.ia 4 (.t 26) (.c (.d true (.int .i64 0)))⟩ (.take ⟨some 28,none,.ld (some 4) (.t 27)⟩ (.br (.cons ⟨some 6,none,.alloc [.d true (.int .i64 0),.d true (.int .i64 0),.d true (.str ⟨#[]⟩),.nil]⟩ (.br (.cons ⟨some 7,none,.alloc [.d true (.int .i64 0),.d true (.int .i64 0),.d true (.str ⟨#[]⟩),.nil]⟩ (.br (.cons ⟨none,none,.st 4 (.t 6) (.t 24)⟩ (.br (.cons ⟨none,none,.st 4 (.t 7) (.t 28)⟩ (.done) (.nil))) (.nil))) (.nil))) (.cons ⟨some 7,none,.alloc [.d true (.int .i64 0),.d true (.int .i64 0),.d true (.str ⟨#[]⟩),.nil]⟩ (.br (.cons ⟨some 6,none,.alloc [.d true (.int .i64 0),.d true (.int .i64 0),.d true (.str ⟨#[]⟩),.nil]⟩ (.br (.cons ⟨none,none,.st 4 (.t 6) (.t 24)⟩ (.br (.cons ⟨none,none,.st 4 (.t 7) (.t 28)⟩ (.done) (.nil))) (.nil))) (.nil))) (.nil))))))))) [4,6,7]) (.seq (.seq (.region [⟨some 29,none,.ld (some 4) (.t 7)⟩,⟨some 30,none,.ld (some 4) (.t 6)⟩,⟨some 31,none,.call (.c (.fn 53 [])) [.t 29,.t 30]⟩] [4,6,7,31]) (.cond (.t 31) (.region [⟨some 32,none,.ld (some 4) (.t 7)⟩,⟨some 33,none,.ld (some 4) (.t 6)⟩,⟨none,none,.st 4 (.t 6) (.t 32)⟩,⟨none,none,.st 4 (.t 7) (.t 33)⟩] [4,6,7]) (.skip))) (.seq (.region [⟨some 34,none,.ld (some 4) (.t 6)⟩,⟨some 35,none,.ld (some 4) (.t 7)⟩,⟨some 36,none,.call (.c (.fn 106 [])) [.c (.d true (.int .i64 5)),.t 34,.t 35]⟩,⟨some 8,none,.alloc [.d true (.int .i64 0),.d true (.int .i64 0),.d true (.str ⟨#[]⟩),.nil]⟩,⟨none,none,.st 4 (.t 8) (.t 36)⟩] [4,8]) (.seq (.tree (.take ⟨some 37,none,.ld (some 4) (.t 8)⟩ (.take ⟨some 38,none,.fa 0 (.t 8)⟩ (.take ⟨some 39,none,.ld none (.t 38)⟩ (.take ⟨some 40,none,.bin .eql (.t 39) (.c (.d true (.int .i64 5)))⟩ (.br (.cons ⟨none,none,.st 4 (.t 4) (.t 37)⟩ (.take ⟨some 5,none,.mv (.t 40)⟩ (.done)) (.nil))))))) [4,5]) (.ret))))))
theorem ok142 : FnOk Tryd.prog Tryd.f142 41 keep142 ac142 [.c 4 (some 4),.t 5]:=by
  refine ⟨?_,?_,?_,?_,?_⟩ <;> kernel_rfl

/-! spec.l1Byte -/
def keep143 : Nat → List Nat
  | 0 => [0,1000000,1000001]
  | 1 => [0,1000000,1000001]
  | 2 => [0,3,1000000,1000001]
  | 3 => [0,3,34,1000000,1000001]
  | 4 => [0,3,1000000,1000001]
  | 5 => [3,1000000,1000001]
  | 6 => [2,1000000,1000001]
  | _ => []
def ac143 : AC:=.seq (.region [⟨some 2,none,.mv (.c (.d true (.int .i64 0)))⟩] [0,1000000,1000001]) (.seq (.region [⟨some 4,none,.mv (.t 0)⟩,⟨some 5,none,.mv (.t 0)⟩,⟨some 6,none,.ck (.t 5)⟩,⟨some 7,none,.fa 2 (.t 6)⟩,⟨some 8,none,.ld none (.t 7)⟩,⟨some 9,none,.bin .mul (.t 8) (.c (.d true (.int .i64 6364136223846793005)))⟩,⟨some 10,none,.bin .add (.t 9) (.c (.d true (.int .i64 1442695040888963407)))⟩,⟨some 11,none,.ck (.t 4)⟩,⟨some 12,none,.fa 2 (.t 11)⟩,⟨none,none,.st 1 (.t 12) (.t 10)⟩] [0,1000000,1000001]) (.seq (.draw [⟨some 13,none,.mv (.t 0)⟩,⟨some 14,none,.ck (.t 13)⟩,⟨some 15,none,.fa 2 (.t 14)⟩,⟨some 16,none,.ld none (.t 15)⟩,⟨some 17,none,.bin .shr (.t 16) (.c (.d true (.int .u64 33)))⟩,⟨some 18,none,.mv (.t 0)⟩,⟨some 19,none,.ck (.t 18)⟩,⟨some 20,none,.fa 2 (.t 19)⟩,⟨some 21,none,.ld none (.t 20)⟩,⟨some 22,none,.bin .shr (.t 21) (.c (.d true (.int .u64 45)))⟩,⟨some 23,none,.bin .xor (.t 17) (.t 22)⟩,⟨some 24,none,.bin .and (.t 23) (.c (.d true (.int .i64 255)))⟩,⟨some 3,none,.mv (.t 24)⟩] [0,3,1000000,1000001]) (.seq (.seq (.draw [⟨some 25,none,.mv (.t 0)⟩,⟨some 26,none,.ck (.t 25)⟩,⟨some 27,none,.fa 1 (.t 26)⟩,⟨some 28,none,.ld none (.t 27)⟩,⟨some 29,none,.mv (.t 0)⟩,⟨some 30,none,.ck (.t 29)⟩,⟨some 31,none,.fa 0 (.t 30)⟩,⟨some 32,none,.ld none (.t 31)⟩,⟨some 33,none,.len (.t 32)⟩,⟨some 34,none,.bin .lss (.t 28) (.t 33)⟩] [0,3,34,1000000,1000001]) (.cond (.t 34) (.seq (.draw [⟨some 35,none,.mv (.t 3)⟩,⟨some 36,none,.mv (.t 0)⟩,⟨some 37,none,.ck (.t 36)⟩,⟨some 38,none,.fa 0 (.t 37)⟩,⟨some 39,none,.ld none (.t 38)⟩,⟨some 40,none,.mv (.t 0)⟩,⟨some 41,none,.ck (.t 40)⟩,⟨some 42,none,.fa 1 (.t 41)⟩,⟨some 43,none,.ld none (.t 42)⟩,⟨some 44,none,.ia 1 (.t 39) (.t 43)⟩,⟨some 45,none,.ld none (.t 44)⟩,⟨some 46,none,.cvi .i64 (.t 45)⟩,⟨some 47,none,.bin .add (.t 35) (.t 46)⟩,⟨some 48,none,.bin .and (.t 47) (.c (.d true (.int .i64 255)))⟩,⟨some 3,none,.mv (.t 48)⟩] [0,3,1000000,1000001]) (.region [⟨some 49,none,.mv (.t 0)⟩,⟨some 50,none,.mv (.t 0)⟩,⟨some 51,none,.ck (.t 50)⟩,⟨some 52,none,.fa 1 (.t 51)⟩,⟨some 53,none,.ld none (.t 52)⟩,⟨some 54,none,.bin .add (.t 53) (.c (.d true (.int .i64 1)))⟩,⟨some 55,none,.ck (.t 49)⟩,⟨some 56,none,.fa 1 (.t 55)⟩,⟨none,none,.st 1 (.t 56) (.t 54)⟩] [3,1000000,1000001])) (.skip))) (.seq (.region [⟨some 57,none,.mv (.t 3)⟩,⟨some 2,none,.mv (.t 57)⟩] [2,1000000,1000001]) (.ret)))))
theorem ok143 : FnOk Tryd.prog Tryd.f143 58 keep143 ac143 [.t 2]:=by
  refine ⟨?_,?_,?_,?_,?_⟩ <;> kernel_rfl

/-! impl.cloneAll -/
def keep144 : Nat → List Nat
  | 0 => [0]
  | 1 => [0,3]
  | 2 => [3,6,7,8]
  | 3 => [3,6,7,8,9]
  | 4 => [3,5,6,7,8]
  | 5 => [3,6,7,8]
  | 6 => [3,6,7,8]
  | 7 => [2]
  | _ => []
def ac144 : AC:=.seq (.region [⟨some 2,none,.own 28 4⟩] [0]) (.seq (.region [⟨some 3,none,.own 28 4⟩] [0,3]) (.seq (.seq (.region [⟨some 6,none,.mv (.t 0)⟩,⟨some 7,none,.len (.t 6)⟩,⟨some 8,none,.mv (.c (.d true (.int .i64 0)))⟩] [3,6,7,8]) (.block 0 (.loop (.seq (.region [⟨some 9,none,.bin .lss (.t 8) (.t 7)⟩] [3,6,7,8,9]) (.seq (.cond (.t 9) (.skip) (.exit 0)) (.seq (.block 1 (.seq (.region [⟨some 10,none,.ia 4 (.t 6) (.t 8)⟩,⟨some 11,none,.ld (some 4) (.t 10)⟩,⟨some 5,none,.alloc [.d true (.int .i64 0),.d true (.int .i64 0),.d true (.str ⟨#[]⟩),.nil]⟩,⟨none,none,.st 4 (.t 5) (.t 11)⟩] [3,5,6,7,8]) (.region [⟨some 12,none,.mv (.t 3)⟩,⟨some 13,none,.ld (some 4) (.t 5)⟩,⟨some 14,none,.call (.c (.fn 99 [])) [.t 13]⟩,⟨some 15,none,.bs 28 4 [.t 14]⟩,⟨some 16,none,.app 28 4 56 (.t 12) (.t 15)⟩,⟨some 3,none,.mv (.t 16)⟩] [3,6,7,8]))) (.region [⟨some 17,none,.bin .add (.t 8) (.c (.d true (.int .i64 1)))⟩,⟨some 8,none,.mv (.t 17)⟩] [3,6,7,8]))))))) (.seq (.region [⟨some 18,none,.mv (.t 3)⟩,⟨some 2,none,.mv (.t 18)⟩] [2]) (.ret))))
theorem ok144 : FnOk Tryd.prog Tryd.f144 19 keep144 ac144 [.t 2]:=by
  refine ⟨?_,?_,?_,?_,?_⟩ <;> kernel_rfl

/-! spec.l3Ok -/
def keep145 : Nat → List Nat
  | 0 => [1,2]
  | 1 => [1,2,5]
  | 2 => [2]
  | 3 => [2]
  | _ => []
def ac145 : AC:=.seq (.region [⟨some 1,none,.box (.t 0)⟩,⟨some 2,none,.alloc [.d true (.int .i64 0),.d true (.int .i64 0),.d true (.str ⟨#[]⟩),.nil]⟩] [1,2]) (.seq (.seq (.region [⟨some 3,none,.ld (some 4) (.t 1)⟩,⟨some 4,none,.call (.c (.fn 56 [])) [.t 3]⟩,⟨some 5,none,.not (.t 4)⟩] [1,2,5]) (.cond (.t 5) (.seq (.region [⟨some 6,none,.bld [.d true (.int .i64 0),.d true (.int .i64 0),.d true (.str ⟨#[]⟩),.nil] []⟩,⟨none,none,.st 4 (.t 2) (.t 6)⟩] [2]) (.ret)) (.skip))) (.seq (.region [⟨some 7,none,.ld (some 4) (.t 1)⟩,⟨none,none,.st 4 (.t 2) (.t 7)⟩] [2]) (.ret)))
theorem ok145 : FnOk Tryd.prog Tryd.f145 8 keep145 ac145 [.c 2 (some 4)]:=by
  refine ⟨?_,?_,?_,?_,?_⟩ <;> kernel_rfl

/-! impl.arity -/
def keep146 : Nat → List Nat
  | 0 => [0]
  | 1 => [3]
  | 2 => [3,4]
  | 3 => [3,4]
  | 4 => [2]
  | 5 => [3,7]
  | 6 => [3,7]
  | 7 => [2]
  | 8 => [3,10]
  | 9 => [3,10]
  | 10 => [3,10]
  | 11 => [10]
  | 12 => [2]
  | 13 => [2]
  | _ => []
def ac146 : AC:=.seq (.region [⟨some 2,none,.mv (.c (.d true (.int .i64 0)))⟩] [0]) (.seq (.seq (.region [⟨some 3,none,.mv (.t 0)⟩] [3]) (.block 0 (.seq (.seq (.region [⟨some 5,none,.bin .eql (.t 3) (.c (.d true (.int .i64 1)))⟩,⟨some 4,none,.mv (.t 5)⟩] [3,4]) (.cond (.t 4) (.skip) (.region [⟨some 6,none,.bin .eql (.t 3) (.c (.d true (.int .i64 2)))⟩,⟨some 4,none,.mv (.t 6)⟩] [3,4]))) (.cond (.t 4) (.seq (.region [⟨some 2,none,.mv (.c (.d true (.int .i64 0)))⟩] [2]) (.ret)) (.seq (.seq (.region [⟨some 8,none,.bin .eql (.t 3) (.c (.d true (.int .i64 4)))⟩,⟨some 7,none,.mv (.t 8)⟩] [3,7]) (.cond (.t 7) (.skip) (.region [⟨some 9,none,.bin .eql (.t 3) (.c (.d true (.int .i64 6)))⟩,⟨some 7,none,.mv (.t 9)⟩] [3,7]))) (.cond (.t 7) (.seq (.region [⟨some 2,none,.mv (.c (.d true (.int .i64 1)))⟩] [2]) (.ret)) (.seq (.seq (.region [⟨some 11,none,.bin .eql (.t 3) (.c (.d true (.int .i64 3)))⟩,⟨some 10,none,.mv (.t 11)⟩] [3,10]) (.cond (.t 10) (.skip) (.seq (.region [⟨some 12,none,.bin .eql (.t 3) (.c (.d true (.int .i64 5)))⟩,⟨some 10,none,.mv (.t 12)⟩] [3,10]) (.cond (.t 10) (.skip) (.seq (.region [⟨some 13,none,.bin .eql (.t 3) (.c (.d true (.int .i64 7)))⟩,⟨some 10,none,.mv (.t 13)⟩] [3,10]) (.cond (.t 10) (.skip) (.region [⟨some 14,none,.bin .eql (.t 3) (.c (.d true (.int .i64 8)))⟩,⟨some 10,none,.mv (.t 14)⟩] [10]))))))) (.cond (.t 10) (.seq (.region [⟨some 2,none,.mv (.c (.d true (.int .i64 2)))⟩] [2]) (.ret)) (.skip))))))))) (.seq (.region [⟨some 2,none,.mv (.c (.d true (.int .i64 (-1))))⟩] [2]) (.ret)))
theorem ok146 : FnOk Tryd.prog Tryd.f146 15 keep146 ac146 [.t 2]:=by
  refine ⟨?_,?_,?_,?_,?_⟩ <;> kernel_rfl

/-! slices.ContainsFunc[[]impl.Term,impl.Term] -/
def keep147 : Nat → List Nat
  | 0 => [0,1]
  | 1 => [4]
  | _ => []
def ac147 : AC:=.seq (.region [⟨some 4,none,.mv (.c (.d true (.bool false)))⟩] [0,1]) (.seq (.region [⟨some 5,none,.mv (.t 0)⟩,⟨some 6,none,.mv (.t 1)⟩,⟨some 7,none,.call (.c (.fn 170 [])) [.t 5,.t 6]⟩,⟨some 8,none,.bin .geq (.t 7) (.c (.d true (.int .i64 0)))⟩,⟨some 4,none,.mv (.t 8)⟩] [4]) (.ret))
theorem ok147 : FnOk Tryd.prog Tryd.f147 9 keep147 ac147 [.t 4]:=by
  refine ⟨?_,?_,?_,?_,?_⟩ <;> kernel_rfl

/-! impl.formOk$1 -/
def keep148 : Nat → List Nat
  | 0 => [1]
  | 1 => [2]
  | _ => []
def ac148 : AC:=.seq (.region [⟨some 1,none,.box (.t 0)⟩,⟨some 2,none,.mv (.c (.d true (.bool false)))⟩] [1]) (.seq (.region [⟨some 3,none,.ld (some 4) (.t 1)⟩,⟨some 4,none,.call (.c (.fn 109 [])) [.t 3]⟩,⟨some 5,none,.not (.t 4)⟩,⟨some 2,none,.mv (.t 5)⟩] [2]) (.ret))
theorem ok148 : FnOk Tryd.prog Tryd.f148 6 keep148 ac148 [.t 2]:=by
  refine ⟨?_,?_,?_,?_,?_⟩ <;> kernel_rfl

/-! impl.in -/
def keep149 : Nat → List Nat
  | 0 => [0,1,2]
  | 1 => [6]
  | _ => []
def ac149 : AC:=.seq (.region [⟨some 6,none,.mv (.c (.d true (.bool false)))⟩] [0,1,2]) (.seq (.region [⟨some 7,none,.mv (.t 0)⟩,⟨some 8,none,.mv (.t 1)⟩,⟨some 9,none,.bin .geq (.t 7) (.t 8)⟩,⟨some 10,none,.mv (.t 9)⟩,⟨some 11,some (10,true),.mv (.t 0)⟩,⟨some 12,some (10,true),.mv (.t 2)⟩,⟨some 13,some (10,true),.bin .leq (.t 11) (.t 12)⟩,⟨some 14,none,.pick (.t 10) (.t 13) (.c (.d true (.bool false)))⟩,⟨some 6,none,.mv (.t 14)⟩] [6]) (.ret))
theorem ok149 : FnOk Tryd.prog Tryd.f149 15 keep149 ac149 [.t 6]:=by
  refine ⟨?_,?_,?_,?_,?_⟩ <;> kernel_rfl

/-! spec.l1Kids -/
def keep150 : Nat → List Nat
  | 0 => [0]
  | 1 => [3]
  | 2 => [3,4]
  | 3 => [3,4]
  | 4 => [2]
  | 5 => [3,7]
  | 6 => [3,7]
  | 7 => [2]
  | 8 => [3,10]
  | 9 => [3,10]
  | 10 => [3,10]
  | 11 => [10]
  | 12 => [2]
  | 13 => [2]
  | _ => []
def ac150 : AC:=.seq (.region [⟨some 2,none,.mv (.c (.d true (.int .i64 0)))⟩] [0]) (.seq (.seq (.region [⟨some 3,none,.mv (.t 0)⟩] [3]) (.block 0 (.seq (.seq (.region [⟨some 5,none,.bin .eql (.t 3) (.c (.d true (.int .i64 1)))⟩,⟨some 4,none,.mv (.t 5)⟩] [3,4]) (.cond (.t 4) (.skip) (.region [⟨some 6,none,.bin .eql (.t 3) (.c (.d true (.int .i64 2)))⟩,⟨some 4,none,.mv (.t 6)⟩] [3,4]))) (.cond (.t 4) (.seq (.region [⟨some 2,none,.mv (.c (.d true (.int .i64 0)))⟩] [2]) (.ret)) (.seq (.seq (.region [⟨some 8,none,.bin .eql (.t 3) (.c (.d true (.int .i64 4)))⟩,⟨some 7,none,.mv (.t 8)⟩] [3,7]) (.cond (.t 7) (.skip) (.region [⟨some 9,none,.bin .eql (.t 3) (.c (.d true (.int .i64 6)))⟩,⟨some 7,none,.mv (.t 9)⟩] [3,7]))) (.cond (.t 7) (.seq (.region [⟨some 2,none,.mv (.c (.d true (.int .i64 1)))⟩] [2]) (.ret)) (.seq (.seq (.region [⟨some 11,none,.bin .eql (.t 3) (.c (.d true (.int .i64 3)))⟩,⟨some 10,none,.mv (.t 11)⟩] [3,10]) (.cond (.t 10) (.skip) (.seq (.region [⟨some 12,none,.bin .eql (.t 3) (.c (.d true (.int .i64 5)))⟩,⟨some 10,none,.mv (.t 12)⟩] [3,10]) (.cond (.t 10) (.skip) (.seq (.region [⟨some 13,none,.bin .eql (.t 3) (.c (.d true (.int .i64 7)))⟩,⟨some 10,none,.mv (.t 13)⟩] [3,10]) (.cond (.t 10) (.skip) (.region [⟨some 14,none,.bin .eql (.t 3) (.c (.d true (.int .i64 8)))⟩,⟨some 10,none,.mv (.t 14)⟩] [10]))))))) (.cond (.t 10) (.seq (.region [⟨some 2,none,.mv (.c (.d true (.int .i64 2)))⟩] [2]) (.ret)) (.skip))))))))) (.seq (.region [⟨some 2,none,.mv (.c (.d true (.int .i64 (-1))))⟩] [2]) (.ret)))
theorem ok150 : FnOk Tryd.prog Tryd.f150 15 keep150 ac150 [.t 2]:=by
  refine ⟨?_,?_,?_,?_,?_⟩ <;> kernel_rfl

/-! spec.l6Domain -/
/-! impl.domainOk -/
/-! impl.PolicyOk$1 -/
/-! laws.szTermS -/
/-! laws.toTermS -/
/-! laws.markText -/
/-! impl.hasTerm$1 -/
def keep161 : Nat → List Nat
  | 0 => [1,2]
  | 1 => [3]
  | _ => []
def ac161 : AC:=.seq (.region [⟨some 2,none,.box (.t 0)⟩,⟨some 3,none,.mv (.c (.d true (.bool false)))⟩] [1,2]) (.seq (.region [⟨some 4,none,.ld (some 4) (.t 2)⟩,⟨some 5,none,.ld (some 4) (.t 1)⟩,⟨some 6,none,.call (.c (.fn 42 [])) [.t 4,.t 5]⟩,⟨some 3,none,.mv (.t 6)⟩] [3]) (.ret))
theorem ok161 : FnOk Tryd.prog Tryd.f161 7 keep161 ac161 [.t 3]:=by
  refine ⟨?_,?_,?_,?_,?_⟩ <;> kernel_rfl

/-! impl.madePub -/
def keep162 : Nat → List Nat
  | 0 => [0,3]
  | 1 => [4]
  | _ => []
def ac162 : AC:=.seq (.region [⟨some 3,none,.box (.t 1)⟩,⟨some 4,none,.mv (.c (.d true (.bool false)))⟩] [0,3]) (.seq (.region [⟨some 5,none,.mv (.t 0)⟩,⟨some 6,none,.ld (some 4) (.t 3)⟩,⟨some 7,none,.bs 28 4 [.t 6]⟩,⟨some 8,none,.bld [.d true (.int .i64 0),.d true (.int .i64 0),.d true (.str ⟨#[]⟩),.nil] [(0,1,.c (.d true (.int .i64 4))),(3,1,.t 7)]⟩,⟨some 9,none,.call (.c (.fn 133 [])) [.t 5,.t 8]⟩,⟨some 4,none,.mv (.t 9)⟩] [4]) (.ret))
theorem ok162 : FnOk Tryd.prog Tryd.f162 10 keep162 ac162 [.t 4]:=by
  refine ⟨?_,?_,?_,?_,?_⟩ <;> kernel_rfl

/-! impl.made$1 -/
def keep163 : Nat → List Nat
  | 0 => [1,2]
  | 1 => [3]
  | _ => []
def ac163 : AC:=.seq (.region [⟨some 2,none,.box (.t 0)⟩,⟨some 3,none,.mv (.c (.d true (.bool false)))⟩] [1,2]) (.seq (.region [⟨some 4,none,.ld none (.t 1)⟩,⟨some 5,none,.ld (some 4) (.t 2)⟩,⟨some 6,none,.call (.c (.fn 133 [])) [.t 4,.t 5]⟩,⟨some 7,none,.not (.t 6)⟩,⟨some 3,none,.mv (.t 7)⟩] [3]) (.ret))
theorem ok163 : FnOk Tryd.prog Tryd.f163 8 keep163 ac163 [.t 3]:=by
  refine ⟨?_,?_,?_,?_,?_⟩ <;> kernel_rfl

/-! slices.IndexFunc[[]string,string] -/
/-! slices.IndexFunc[[]impl.Term,impl.Term] -/
def keep170 : Nat → List Nat
  | 0 => [0,1]
  | 1 => [0,1,7,8]
  | 2 => [0,1,7,8,9]
  | 3 => [0,1,5,7,8]
  | 4 => [0,1,5,7,8,16]
  | 5 => [4]
  | 6 => [0,1,7,8]
  | 7 => [4]
  | _ => []
def ac170 : AC:=.seq (.region [⟨some 4,none,.mv (.c (.d true (.int .i64 0)))⟩] [0,1]) (.seq (.seq (.region [⟨some 6,none,.mv (.t 0)⟩,⟨some 7,none,.len (.t 6)⟩,⟨some 8,none,.mv (.c (.d true (.int .i64 0)))⟩] [0,1,7,8]) (.block 0 (.loop (.seq (.region [⟨some 9,none,.bin .lss (.t 8) (.t 7)⟩] [0,1,7,8,9]) (.seq (.cond (.t 9) (.skip) (.exit 0)) (.seq (.block 1 (.seq (.region [⟨some 10,none,.mv (.t 8)⟩,⟨some 5,none,.mv (.t 10)⟩] [0,1,5,7,8]) (.seq (.region [⟨some 11,none,.mv (.t 1)⟩,⟨some 12,none,.mv (.t 0)⟩,⟨some 13,none,.mv (.t 5)⟩,⟨some 14,none,.ia 4 (.t 12) (.t 13)⟩,⟨some 15,none,.ld (some 4) (.t 14)⟩,⟨some 16,none,.call (.t 11) [.t 15]⟩] [0,1,5,7,8,16]) (.cond (.t 16) (.seq (.region [⟨some 17,none,.mv (.t 5)⟩,⟨some 4,none,.mv (.t 17)⟩] [4]) (.ret)) (.skip))))) (.region [⟨some 18,none,.bin .add (.t 8) (.c (.d true (.int .i64 1)))⟩,⟨some 8,none,.mv (.t 18)⟩] [0,1,7,8]))))))) (.seq (.region [⟨some 4,none,.mv (.c (.d true (.int .i64 (-1))))⟩] [4]) (.ret)))
theorem ok170 : FnOk Tryd.prog Tryd.f170 19 keep170 ac170 [.t 4]:=by
  refine ⟨?_,?_,?_,?_,?_⟩ <;> kernel_rfl

end Go.Proofs.YtlddcimpdkcgeaaDoor
