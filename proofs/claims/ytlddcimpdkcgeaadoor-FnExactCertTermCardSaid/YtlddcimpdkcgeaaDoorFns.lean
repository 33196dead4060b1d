/- Functions, as code over abstract states. -/
import Derived.Test.YtlddcimpdkcgeaaDoorFnsA
set_option linter.unusedVariables false
set_option linter.unusedSimpArgs false
set_option maxRecDepth 100000
namespace Go.Proofs.YtlddcimpdkcgeaaDoor
open Go.RowKit Sym

/-! laws.toCert -/
def keep68 : Nat → List Nat
  | 0 => [1,2]
  | 1 => [1,2,3]
  | 2 => [1,2,3]
  | 3 => [1,2,3]
  | 4 => [2,3]
  | 5 => [2]
  | _ => []
def ac68 : AC:=.seq (.region [⟨some 1,none,.box (.t 0)⟩,⟨some 2,none,.alloc [.d true (.str ⟨#[]⟩),.d true (.int .i64 0),.d true (.int .i64 0),.d true (.str ⟨#[]⟩),.nil,.d true (.int .i64 0)]⟩] [1,2]) (.seq (.region [⟨some 3,none,.alloc [.d true (.str ⟨#[]⟩),.d true (.int .i64 0),.d true (.int .i64 0),.d true (.str ⟨#[]⟩),.nil,.d true (.int .i64 0)]⟩] [1,2,3]) (.seq (.region [⟨some 4,none,.fa 0 (.t 1)⟩,⟨some 5,none,.ld none (.t 4)⟩,⟨some 6,none,.fa 0 (.t 3)⟩,⟨none,none,.st 1 (.t 6) (.t 5)⟩] [1,2,3]) (.seq (.region [⟨some 7,none,.fa 1 (.t 1)⟩,⟨some 8,none,.ld (some 4) (.t 7)⟩,⟨some 9,none,.call (.c (.fn 125 [])) [.t 8]⟩,⟨some 10,none,.fa 1 (.t 3)⟩,⟨none,none,.st 4 (.t 10) (.t 9)⟩] [1,2,3]) (.seq (.region [⟨some 11,none,.fa 5 (.t 1)⟩,⟨some 12,none,.ld none (.t 11)⟩,⟨some 13,none,.fa 5 (.t 3)⟩,⟨none,none,.st 1 (.t 13) (.t 12)⟩] [2,3]) (.seq (.region [⟨some 14,none,.ld (some 6) (.t 3)⟩,⟨none,none,.st 6 (.t 2) (.t 14)⟩] [2]) (.ret))))))
theorem ok68 : FnOk Tryd.prog Tryd.f68 15 keep68 ac68 [.c 2 (some 6)]:=by
  refine ⟨?_,?_,?_,?_,?_⟩ <;> kernel_rfl

/-! impl.CertTerm -/
def keep69 : Nat → List Nat
  | 0 => [1,2]
  | 1 => [1,2,5]
  | 2 => [2]
  | 3 => [2]
  | 1000003 => [1]
  | _ => []
def ac69 : AC:=.seq (.region [⟨some 1,none,.box (.t 0)⟩,⟨some 2,none,.alloc [.d true (.int .i64 0),.d true (.int .i64 0),.d true (.str ⟨#[]⟩),.nil]⟩] [1,2]) (.seq (.seq (.region [⟨some 3,none,.ld (some 6) (.t 1)⟩,⟨some 4,none,.call (.c (.fn 126 [])) [.t 3]⟩,⟨some 5,none,.not (.t 4)⟩] [1,2,5]) (.cond (.t 5) (.seq (.region [⟨some 6,none,.bld [.d true (.int .i64 0),.d true (.int .i64 0),.d true (.str ⟨#[]⟩),.nil] []⟩,⟨none,none,.st 4 (.t 2) (.t 6)⟩] [2]) (.ret)) (.skip))) (.seq (.tree (.take ⟨some 8,none,.fa 0 (.t 1)⟩ (.take ⟨some 9,none,.ld none (.t 8)⟩ (.take ⟨some 11,none,.fa 1 (.t 1)⟩ (.take ⟨some 12,none,.ld (some 4) (.t 11)⟩ (.take ⟨some 13,none,.fa 5 (.t 1)⟩ (.take ⟨some 14,none,.ld none (.t 13)⟩ (.br (.cons ⟨some 7,none,.call (.c (.fn 12 [])) [.c (.d true (.int .i64 1))]⟩ (.br (.cons ⟨some 10,none,.call (.c (.fn 127 [])) [.t 9]⟩ (.br (.cons ⟨some 15,none,.call (.c (.fn 83 [])) [.t 14]⟩ (.br (.cons ⟨some 16,none,.call (.c (.fn 82 [])) [.t 12,.t 15]⟩ (.br (.cons ⟨some 17,none,.call (.c (.fn 82 [])) [.t 10,.t 16]⟩ (.br (.cons ⟨some 18,none,.call (.c (.fn 44 [])) [.t 7,.t 17]⟩ (.br (.cons ⟨none,none,.st 4 (.t 2) (.t 18)⟩ (.done) (.nil))) (.nil))) (.nil))) (.nil))) (.nil))) (.nil))) (.nil))))))))) [2]) (.ret)))
theorem ok69 : FnOk Tryd.prog Tryd.f69 19 keep69 ac69 [.c 2 (some 4)]:=by
  refine ⟨?_,?_,?_,?_,?_⟩ <;> kernel_rfl

/-! laws.eqTerm -/
def keep70 : Nat → List Nat
  | 0 => [2,3]
  | 1 => [2,3,9]
  | 2 => [4]
  | 3 => [2,3,14]
  | 4 => [4]
  | 5 => [2,3,19]
  | 6 => [4]
  | 7 => [25]
  | 8 => [4]
  | 9 => [4]
  | _ => []
def ac70 : AC:=.seq (.region [⟨some 2,none,.box (.t 0)⟩,⟨some 3,none,.box (.t 1)⟩,⟨some 4,none,.mv (.c (.d true (.bool false)))⟩] [2,3]) (.seq (.seq (.region [⟨some 5,none,.fa 0 (.t 2)⟩,⟨some 6,none,.ld none (.t 5)⟩,⟨some 7,none,.fa 0 (.t 3)⟩,⟨some 8,none,.ld none (.t 7)⟩,⟨some 9,none,.bin .neq (.t 6) (.t 8)⟩] [2,3,9]) (.cond (.t 9) (.seq (.region [⟨some 4,none,.mv (.c (.d true (.bool false)))⟩] [4]) (.ret)) (.skip))) (.seq (.seq (.region [⟨some 10,none,.fa 1 (.t 2)⟩,⟨some 11,none,.ld none (.t 10)⟩,⟨some 12,none,.fa 1 (.t 3)⟩,⟨some 13,none,.ld none (.t 12)⟩,⟨some 14,none,.bin .neq (.t 11) (.t 13)⟩] [2,3,14]) (.cond (.t 14) (.seq (.region [⟨some 4,none,.mv (.c (.d true (.bool false)))⟩] [4]) (.ret)) (.skip))) (.seq (.seq (.region [⟨some 15,none,.fa 2 (.t 2)⟩,⟨some 16,none,.ld none (.t 15)⟩,⟨some 17,none,.fa 2 (.t 3)⟩,⟨some 18,none,.ld none (.t 17)⟩,⟨some 19,none,.bin .neq (.t 16) (.t 18)⟩] [2,3,19]) (.cond (.t 19) (.seq (.region [⟨some 4,none,.mv (.c (.d true (.bool false)))⟩] [4]) (.ret)) (.skip))) (.seq (.seq (.region [⟨some 20,none,.fa 3 (.t 2)⟩,⟨some 21,none,.ld none (.t 20)⟩,⟨some 22,none,.fa 3 (.t 3)⟩,⟨some 23,none,.ld none (.t 22)⟩,⟨some 24,none,.call (.c (.fn 128 [])) [.t 21,.t 23]⟩,⟨some 25,none,.not (.t 24)⟩] [25]) (.cond (.t 25) (.seq (.region [⟨some 4,none,.mv (.c (.d true (.bool false)))⟩] [4]) (.ret)) (.skip))) (.seq (.region [⟨some 4,none,.mv (.c (.d true (.bool true)))⟩] [4]) (.ret))))))
theorem ok70 : FnOk Tryd.prog Tryd.f70 26 keep70 ac70 [.t 4]:=by
  refine ⟨?_,?_,?_,?_,?_⟩ <;> kernel_rfl

/-! laws.eqCert -/
def keep71 : Nat → List Nat
  | 0 => [2,3]
  | 1 => [2,3,9]
  | 2 => [4]
  | 3 => [2,3,15]
  | 4 => [4]
  | 5 => [20]
  | 6 => [4]
  | 7 => [4]
  | _ => []
def ac71 : AC:=.seq (.region [⟨some 2,none,.box (.t 0)⟩,⟨some 3,none,.box (.t 1)⟩,⟨some 4,none,.mv (.c (.d true (.bool false)))⟩] [2,3]) (.seq (.seq (.region [⟨some 5,none,.fa 0 (.t 2)⟩,⟨some 6,none,.ld none (.t 5)⟩,⟨some 7,none,.fa 0 (.t 3)⟩,⟨some 8,none,.ld none (.t 7)⟩,⟨some 9,none,.bin .neq (.t 6) (.t 8)⟩] [2,3,9]) (.cond (.t 9) (.seq (.region [⟨some 4,none,.mv (.c (.d true (.bool false)))⟩] [4]) (.ret)) (.skip))) (.seq (.seq (.region [⟨some 10,none,.fa 1 (.t 2)⟩,⟨some 11,none,.ld (some 4) (.t 10)⟩,⟨some 12,none,.fa 1 (.t 3)⟩,⟨some 13,none,.ld (some 4) (.t 12)⟩,⟨some 14,none,.call (.c (.fn 70 [])) [.t 11,.t 13]⟩,⟨some 15,none,.not (.t 14)⟩] [2,3,15]) (.cond (.t 15) (.seq (.region [⟨some 4,none,.mv (.c (.d true (.bool false)))⟩] [4]) (.ret)) (.skip))) (.seq (.seq (.region [⟨some 16,none,.fa 5 (.t 2)⟩,⟨some 17,none,.ld none (.t 16)⟩,⟨some 18,none,.fa 5 (.t 3)⟩,⟨some 19,none,.ld none (.t 18)⟩,⟨some 20,none,.bin .neq (.t 17) (.t 19)⟩] [20]) (.cond (.t 20) (.seq (.region [⟨some 4,none,.mv (.c (.d true (.bool false)))⟩] [4]) (.ret)) (.skip))) (.seq (.region [⟨some 4,none,.mv (.c (.d true (.bool true)))⟩] [4]) (.ret)))))
theorem ok71 : FnOk Tryd.prog Tryd.f71 21 keep71 ac71 [.t 4]:=by
  refine ⟨?_,?_,?_,?_,?_⟩ <;> kernel_rfl

/-! laws.markCert -/
/-! laws.markTerm -/
/-! laws.heldTerm -/
def keep74 : Nat → List Nat
  | 0 => [1,2]
  | 1 => [1]
  | 2 => [1,10]
  | 3 => [4]
  | 4 => [4]
  | _ => []
def ac74 : AC:=.seq (.region [⟨some 2,none,.box (.t 0)⟩,⟨some 4,none,.mv (.c (.d true (.int .i64 0)))⟩] [1,2]) (.seq (.region [⟨some 5,none,.fa 3 (.t 2)⟩,⟨some 6,none,.ld none (.t 5)⟩,⟨some 7,none,.mv (.t 1)⟩,⟨some 8,none,.call (.c (.fn 130 [])) [.t 6,.t 7]⟩,⟨some 1,none,.mv (.t 8)⟩] [1]) (.seq (.seq (.region [⟨some 9,none,.mv (.t 1)⟩,⟨some 10,none,.bin .lss (.t 9) (.c (.d true (.int .i64 0)))⟩] [1,10]) (.cond (.t 10) (.seq (.region [⟨some 4,none,.mv (.c (.d true (.int .i64 (-1))))⟩] [4]) (.ret)) (.skip))) (.seq (.region [⟨some 11,none,.mv (.t 1)⟩,⟨some 4,none,.mv (.t 11)⟩] [4]) (.ret))))
theorem ok74 : FnOk Tryd.prog Tryd.f74 12 keep74 ac74 [.t 4]:=by
  refine ⟨?_,?_,?_,?_,?_⟩ <;> kernel_rfl

/-! spec.l2Draw -/
/-! spec.l1New -/
/-! impl.right -/
def keep77 : Nat → List Nat
  | 0 => [1,2]
  | 1 => [1,2,5]
  | 2 => [2]
  | 3 => [2]
  | _ => []
def ac77 : AC:=.seq (.region [⟨some 1,none,.box (.t 0)⟩,⟨some 2,none,.alloc [.d true (.int .i64 0),.d true (.int .i64 0),.d true (.str ⟨#[]⟩),.nil]⟩] [1,2]) (.seq (.seq (.region [⟨some 3,none,.ld (some 4) (.t 1)⟩,⟨some 4,none,.call (.c (.fn 55 [])) [.t 3]⟩,⟨some 5,none,.not (.t 4)⟩] [1,2,5]) (.cond (.t 5) (.seq (.region [⟨some 6,none,.bld [.d true (.int .i64 0),.d true (.int .i64 0),.d true (.str ⟨#[]⟩),.nil] []⟩,⟨none,none,.st 4 (.t 2) (.t 6)⟩] [2]) (.ret)) (.skip))) (.seq (.region [⟨some 7,none,.ld (some 4) (.t 1)⟩,⟨some 8,none,.call (.c (.fn 99 [])) [.t 7]⟩,⟨none,none,.st 4 (.t 2) (.t 8)⟩] [2]) (.ret)))
theorem ok77 : FnOk Tryd.prog Tryd.f77 9 keep77 ac77 [.c 2 (some 4)]:=by
  refine ⟨?_,?_,?_,?_,?_⟩ <;> kernel_rfl

/-! (*impl.knower).add -/
/-! (*impl.knower).apart -/
/-! spec.l2Add -/
/-! spec.l2Made -/
/-! impl.Pair -/
def keep82 : Nat → List Nat
  | 0 => [2,3,4]
  | 1 => [4]
  | _ => []
def ac82 : AC:=.seq (.region [⟨some 2,none,.box (.t 0)⟩,⟨some 3,none,.box (.t 1)⟩,⟨some 4,none,.alloc [.d true (.int .i64 0),.d true (.int .i64 0),.d true (.str ⟨#[]⟩),.nil]⟩] [2,3,4]) (.seq (.region [⟨some 5,none,.ld (some 4) (.t 2)⟩,⟨some 6,none,.ld (some 4) (.t 3)⟩,⟨some 7,none,.bs 28 4 [.t 5,.t 6]⟩,⟨some 8,none,.bld [.d true (.int .i64 0),.d true (.int .i64 0),.d true (.str ⟨#[]⟩),.nil] [(0,1,.c (.d true (.int .i64 3))),(3,1,.t 7)]⟩,⟨some 9,none,.call (.c (.fn 77 [])) [.t 8]⟩,⟨none,none,.st 4 (.t 4) (.t 9)⟩] [4]) (.ret))
theorem ok82 : FnOk Tryd.prog Tryd.f82 10 keep82 ac82 [.c 4 (some 4)]:=by
  refine ⟨?_,?_,?_,?_,?_⟩ <;> kernel_rfl

/-! impl.digits -/
def keep83 : Nat → List Nat
  | 0 => [0,2]
  | 1 => [2]
  | _ => []
def ac83 : AC:=.seq (.region [⟨some 2,none,.alloc [.d true (.int .i64 0),.d true (.int .i64 0),.d true (.str ⟨#[]⟩),.nil]⟩] [0,2]) (.seq (.region [⟨some 3,none,.mv (.t 0)⟩,⟨some 4,none,.call (.c (.fn 111 [])) [.t 3]⟩,⟨some 5,none,.call (.c (.fn 127 [])) [.t 4]⟩,⟨none,none,.st 4 (.t 2) (.t 5)⟩] [2]) (.ret))
theorem ok83 : FnOk Tryd.prog Tryd.f83 6 keep83 ac83 [.c 2 (some 4)]:=by
  refine ⟨?_,?_,?_,?_,?_⟩ <;> kernel_rfl

/-! impl.Hash -/
/-! impl.Made -/
/-! spec.l5DrawText -/
/-! spec.l1Once -/
/-! spec.l5DrawHost -/
/-! spec.l5Star -/
/-! impl.labelsOk -/
def keep92 : Nat → List Nat
  | 0 => [0,1]
  | 1 => [0,1,5]
  | 2 => [4]
  | _ => []
def ac92 : AC:=.seq (.region [⟨some 4,none,.mv (.c (.d true (.bool false)))⟩] [0,1]) (.seq (.region [⟨some 6,none,.mv (.t 0)⟩,⟨some 7,none,.call (.c (.fn 31 [])) [.t 6]⟩,⟨some 5,none,.mv (.t 7)⟩] [0,1,5]) (.seq (.region [⟨some 8,none,.mv (.t 0)⟩,⟨some 9,none,.slen (.t 8)⟩,⟨some 10,none,.bin .leq (.t 9) (.c (.d true (.int .i64 60)))⟩,⟨some 11,none,.mv (.t 10)⟩,⟨some 12,some (11,true),.mv (.t 5)⟩,⟨some 13,some (11,true),.len (.t 12)⟩,⟨some 14,some (11,true),.mv (.t 1)⟩,⟨some 15,some (11,true),.bin .geq (.t 13) (.t 14)⟩,⟨some 16,none,.pick (.t 11) (.t 15) (.c (.d true (.bool false)))⟩,⟨some 17,none,.mv (.t 16)⟩,⟨some 18,some (17,true),.mv (.t 5)⟩,⟨some 19,some (17,true),.call (.c (.fn 137 [])) [.t 18,.c (.fn 138 [])]⟩,⟨some 20,some (17,true),.not (.t 19)⟩,⟨some 21,none,.pick (.t 17) (.t 20) (.c (.d true (.bool false)))⟩,⟨some 4,none,.mv (.t 21)⟩] [4]) (.ret)))
theorem ok92 : FnOk Tryd.prog Tryd.f92 22 keep92 ac92 [.t 4]:=by
  refine ⟨?_,?_,?_,?_,?_⟩ <;> kernel_rfl

/-! spec.l5Labels -/
def keep93 : Nat → List Nat
  | 0 => [0,1]
  | 1 => [0,1,5]
  | 2 => [0,1,5,6]
  | 3 => [0,1,5,6,12]
  | 4 => [0,1,5,6]
  | 5 => [0,1,5,6,20]
  | 6 => [4]
  | 7 => [4]
  | _ => []
def ac93 : AC:=.seq (.region [⟨some 4,none,.mv (.c (.d true (.bool false)))⟩] [0,1]) (.seq (.region [⟨some 7,none,.mv (.t 0)⟩,⟨some 8,none,.call (.c (.fn 32 [])) [.t 7]⟩,⟨some 5,none,.mv (.t 8)⟩] [0,1,5]) (.seq (.seq (.region [⟨some 6,none,.mv (.c (.d true (.int .i64 0)))⟩] [0,1,5,6]) (.block 0 (.loop (.seq (.seq (.region [⟨some 9,none,.mv (.t 6)⟩,⟨some 10,none,.mv (.t 5)⟩,⟨some 11,none,.len (.t 10)⟩,⟨some 12,none,.bin .lss (.t 9) (.t 11)⟩] [0,1,5,6,12]) (.cond (.t 12) (.skip) (.exit 0))) (.seq (.block 1 (.seq (.region [⟨some 15,none,.mv (.t 5)⟩,⟨some 16,none,.mv (.t 6)⟩,⟨some 17,none,.ia 1 (.t 15) (.t 16)⟩,⟨some 18,none,.ld none (.t 17)⟩,⟨some 19,none,.call (.c (.fn 140 [])) [.t 18]⟩,⟨some 20,none,.not (.t 19)⟩] [0,1,5,6,20]) (.cond (.t 20) (.seq (.region [⟨some 4,none,.mv (.c (.d true (.bool false)))⟩] [4]) (.ret)) (.skip)))) (.region [⟨some 13,none,.mv (.t 6)⟩,⟨some 14,none,.bin .add (.t 13) (.c (.d true (.int .i64 1)))⟩,⟨some 6,none,.mv (.t 14)⟩] [0,1,5,6])))))) (.seq (.region [⟨some 21,none,.mv (.t 5)⟩,⟨some 22,none,.len (.t 21)⟩,⟨some 23,none,.mv (.t 1)⟩,⟨some 24,none,.bin .geq (.t 22) (.t 23)⟩,⟨some 25,none,.mv (.t 24)⟩,⟨some 26,some (25,true),.mv (.t 0)⟩,⟨some 27,some (25,true),.slen (.t 26)⟩,⟨some 28,some (25,true),.bin .leq (.t 27) (.c (.d true (.int .i64 60)))⟩,⟨some 29,none,.pick (.t 25) (.t 28) (.c (.d true (.bool false)))⟩,⟨some 4,none,.mv (.t 29)⟩] [4]) (.ret))))
theorem ok93 : FnOk Tryd.prog Tryd.f93 30 keep93 ac93 [.t 4]:=by
  refine ⟨?_,?_,?_,?_,?_⟩ <;> kernel_rfl

/-! spec.l1Draw -/
/-! spec.l1PickInt -/
/-! spec.l1DrawRight -/
/-! spec.l1Below -/
/-! impl.clone -/
def keep99 : Nat → List Nat
  | 0 => [1,2]
  | 1 => [1,2]
  | 2 => [2]
  | _ => []
def ac99 : AC:=.seq (.region [⟨some 1,none,.box (.t 0)⟩,⟨some 2,none,.alloc [.d true (.int .i64 0),.d true (.int .i64 0),.d true (.str ⟨#[]⟩),.nil]⟩] [1,2]) (.seq (.region [⟨some 3,none,.fa 3 (.t 1)⟩,⟨some 4,none,.ld none (.t 3)⟩,⟨some 5,none,.call (.c (.fn 144 [])) [.t 4]⟩,⟨some 6,none,.fa 3 (.t 1)⟩,⟨none,none,.st 1 (.t 6) (.t 5)⟩] [1,2]) (.seq (.region [⟨some 7,none,.ld (some 4) (.t 1)⟩,⟨none,none,.st 4 (.t 2) (.t 7)⟩] [2]) (.ret)))
theorem ok99 : FnOk Tryd.prog Tryd.f99 8 keep99 ac99 [.c 2 (some 4)]:=by
  refine ⟨?_,?_,?_,?_,?_⟩ <;> kernel_rfl

/-! spec.l3Num -/
def keep100 : Nat → List Nat
  | 0 => [0,2]
  | 1 => [2]
  | _ => []
def ac100 : AC:=.seq (.region [⟨some 2,none,.alloc [.d true (.int .i64 0),.d true (.int .i64 0),.d true (.str ⟨#[]⟩),.nil]⟩] [0,2]) (.seq (.region [⟨some 3,none,.mv (.t 0)⟩,⟨some 4,none,.call (.c (.fn 113 [])) [.t 3]⟩,⟨some 5,none,.bld [.d true (.int .i64 0),.d true (.int .i64 0),.d true (.str ⟨#[]⟩),.nil] [(0,1,.c (.d true (.int .i64 2))),(2,1,.t 4)]⟩,⟨none,none,.st 4 (.t 2) (.t 5)⟩] [2]) (.ret))
theorem ok100 : FnOk Tryd.prog Tryd.f100 6 keep100 ac100 [.c 2 (some 4)]:=by
  refine ⟨?_,?_,?_,?_,?_⟩ <;> kernel_rfl

/-! spec.l1Copy -/
def keep101 : Nat → List Nat
  | 0 => [1,2]
  | 1 => [1,2,3]
  | 2 => [1,2,3,4]
  | 3 => [1,2,3,4,16]
  | 4 => [1,2,3,4]
  | 5 => [1,2,3,4]
  | 6 => [2]
  | 1000005 => [1]
  | _ => []
def ac101 : AC:=.seq (.region [⟨some 1,none,.box (.t 0)⟩,⟨some 2,none,.alloc [.d true (.int .i64 0),.d true (.int .i64 0),.d true (.str ⟨#[]⟩),.nil]⟩] [1,2]) (.seq (.region [⟨some 5,none,.fa 0 (.t 1)⟩,⟨some 6,none,.ld none (.t 5)⟩,⟨some 7,none,.fa 1 (.t 1)⟩,⟨some 8,none,.ld none (.t 7)⟩,⟨some 9,none,.fa 2 (.t 1)⟩,⟨some 10,none,.ld none (.t 9)⟩,⟨some 11,none,.bld [.d true (.int .i64 0),.d true (.int .i64 0),.d true (.str ⟨#[]⟩),.nil] [(0,1,.t 6),(1,1,.t 8),(2,1,.t 10)]⟩,⟨some 3,none,.alloc [.d true (.int .i64 0),.d true (.int .i64 0),.d true (.str ⟨#[]⟩),.nil]⟩,⟨none,none,.st 4 (.t 3) (.t 11)⟩] [1,2,3]) (.seq (.seq (.region [⟨some 4,none,.mv (.c (.d true (.int .i64 0)))⟩] [1,2,3,4]) (.block 0 (.loop (.seq (.seq (.region [⟨some 12,none,.mv (.t 4)⟩,⟨some 13,none,.fa 3 (.t 1)⟩,⟨some 14,none,.ld none (.t 13)⟩,⟨some 15,none,.len (.t 14)⟩,⟨some 16,none,.bin .lss (.t 12) (.t 15)⟩] [1,2,3,4,16]) (.cond (.t 16) (.skip) (.exit 0))) (.seq (.block 1 (.tree (.take ⟨some 19,none,.fa 3 (.t 3)⟩ (.take ⟨some 21,none,.fa 3 (.t 1)⟩ (.take ⟨some 22,none,.ld none (.t 21)⟩ (.take ⟨some 23,none,.mv (.t 4)⟩ (.take ⟨some 24,none,.ia 4 (.t 22) (.t 23)⟩ (.take ⟨some 25,none,.ld (some 4) (.t 24)⟩ (.br (.cons ⟨some 20,none,.ld none (.t 19)⟩ (.br (.cons ⟨some 26,none,.call (.c (.fn 101 [])) [.t 25]⟩ (.br (.cons ⟨some 27,none,.bs 28 4 [.t 26]⟩ (.br (.cons ⟨some 28,none,.app 28 4 56 (.t 20) (.t 27)⟩ (.take ⟨some 29,none,.fa 3 (.t 3)⟩ (.br (.cons ⟨none,none,.st 1 (.t 29) (.t 28)⟩ (.done) (.nil)))) (.nil))) (.nil))) (.nil))) (.cons ⟨some 26,none,.call (.c (.fn 101 [])) [.t 25]⟩ (.br (.cons ⟨some 20,none,.ld none (.t 19)⟩ (.br (.cons ⟨some 27,none,.bs 28 4 [.t 26]⟩ (.br (.cons ⟨some 28,none,.app 28 4 56 (.t 20) (.t 27)⟩ (.take ⟨some 29,none,.fa 3 (.t 3)⟩ (.br (.cons ⟨none,none,.st 1 (.t 29) (.t 28)⟩ (.done) (.nil)))) (.nil))) (.nil))) (.cons ⟨some 27,none,.bs 28 4 [.t 26]⟩ (.br (.cons ⟨some 20,none,.ld none (.t 19)⟩ (.br (.cons ⟨some 28,none,.app 28 4 56 (.t 20) (.t 27)⟩ (.take ⟨some 29,none,.fa 3 (.t 3)⟩ (.br (.cons ⟨none,none,.st 1 (.t 29) (.t 28)⟩ (.done) (.nil)))) (.nil))) (.nil))) (.nil)))) (.nil)))))))))) [1,2,3,4])) (.region [⟨some 17,none,.mv (.t 4)⟩,⟨some 18,none,.bin .add (.t 17) (.c (.d true (.int .i64 1)))⟩,⟨some 4,none,.mv (.t 18)⟩] [1,2,3,4])))))) (.seq (.region [⟨some 30,none,.ld (some 4) (.t 3)⟩,⟨none,none,.st 4 (.t 2) (.t 30)⟩] [2]) (.ret))))
theorem ok101 : FnOk Tryd.prog Tryd.f101 31 keep101 ac101 [.c 2 (some 4)]:=by
  refine ⟨?_,?_,?_,?_,?_⟩ <;> kernel_rfl

/-! spec.Pub -/
/-! spec.l2Pub -/
/-! spec.l1DrawTwo -/
/-! slices.EqualFunc[[]impl.Term,[]impl.Term,impl.Term,impl.Term] -/
def keep105 : Nat → List Nat
  | 0 => [0,1,2]
  | 1 => [0,1,2,14]
  | 2 => [6]
  | 3 => [1,2,15,16,17]
  | 4 => [1,2,15,16,17,18]
  | 5 => [1,2,7,8,15,16,17]
  | 6 => [1,2,8,9,15,16,17]
  | 7 => [1,2,15,16,17,30]
  | 8 => [6]
  | 9 => [1,2,15,16,17]
  | 10 => [6]
  | _ => []
def ac105 : AC:=.seq (.region [⟨some 6,none,.mv (.c (.d true (.bool false)))⟩] [0,1,2]) (.seq (.seq (.region [⟨some 10,none,.mv (.t 0)⟩,⟨some 11,none,.len (.t 10)⟩,⟨some 12,none,.mv (.t 1)⟩,⟨some 13,none,.len (.t 12)⟩,⟨some 14,none,.bin .neq (.t 11) (.t 13)⟩] [0,1,2,14]) (.cond (.t 14) (.seq (.region [⟨some 6,none,.mv (.c (.d true (.bool false)))⟩] [6]) (.ret)) (.skip))) (.seq (.seq (.region [⟨some 15,none,.mv (.t 0)⟩,⟨some 16,none,.len (.t 15)⟩,⟨some 17,none,.mv (.c (.d true (.int .i64 0)))⟩] [1,2,15,16,17]) (.block 0 (.loop (.seq (.region [⟨some 18,none,.bin .lss (.t 17) (.t 16)⟩] [1,2,15,16,17,18]) (.seq (.cond (.t 18) (.skip) (.exit 0)) (.seq (.block 1 (.seq (.region [⟨some 19,none,.mv (.t 17)⟩,⟨some 20,none,.ia 4 (.t 15) (.t 17)⟩,⟨some 21,none,.ld (some 4) (.t 20)⟩,⟨some 8,none,.alloc [.d true (.int .i64 0),.d true (.int .i64 0),.d true (.str ⟨#[]⟩),.nil]⟩,⟨some 7,none,.mv (.t 19)⟩,⟨none,none,.st 4 (.t 8) (.t 21)⟩] [1,2,7,8,15,16,17]) (.seq (.region [⟨some 22,none,.mv (.t 1)⟩,⟨some 23,none,.mv (.t 7)⟩,⟨some 24,none,.ia 4 (.t 22) (.t 23)⟩,⟨some 25,none,.ld (some 4) (.t 24)⟩,⟨some 9,none,.alloc [.d true (.int .i64 0),.d true (.int .i64 0),.d true (.str ⟨#[]⟩),.nil]⟩,⟨none,none,.st 4 (.t 9) (.t 25)⟩] [1,2,8,9,15,16,17]) (.seq (.region [⟨some 26,none,.mv (.t 2)⟩,⟨some 27,none,.ld (some 4) (.t 8)⟩,⟨some 28,none,.ld (some 4) (.t 9)⟩,⟨some 29,none,.call (.t 26) [.t 27,.t 28]⟩,⟨some 30,none,.not (.t 29)⟩] [1,2,15,16,17,30]) (.cond (.t 30) (.seq (.region [⟨some 6,none,.mv (.c (.d true (.bool false)))⟩] [6]) (.ret)) (.skip)))))) (.region [⟨some 31,none,.bin .add (.t 17) (.c (.d true (.int .i64 1)))⟩,⟨some 17,none,.mv (.t 31)⟩] [1,2,15,16,17]))))))) (.seq (.region [⟨some 6,none,.mv (.c (.d true (.bool true)))⟩] [6]) (.ret))))
theorem ok105 : FnOk Tryd.prog Tryd.f105 32 keep105 ac105 [.t 6]:=by
  refine ⟨?_,?_,?_,?_,?_⟩ <;> kernel_rfl

/-! spec.l3Two -/
def keep106 : Nat → List Nat
  | 0 => [0,4,5,6]
  | 1 => [6]
  | 1000001 => [1]
  | _ => []
def ac106 : AC:=.seq (.region [⟨some 4,none,.box (.t 1)⟩,⟨some 5,none,.box (.t 2)⟩,⟨some 6,none,.alloc [.d true (.int .i64 0),.d true (.int .i64 0),.d true (.str ⟨#[]⟩),.nil]⟩] [0,4,5,6]) (.seq (.tree (.take ⟨some 7,none,.mv (.t 0)⟩ (.take ⟨some 8,none,.ld (some 4) (.t 4)⟩ (.take ⟨some 10,none,.ld (some 4) (.t 5)⟩ (.br (.cons ⟨some 9,none,.call (.c (.fn 101 [])) [.t 8]⟩ (.br (.cons ⟨some 11,none,.call (.c (.fn 101 [])) [.t 10]⟩ (.br (.cons ⟨some 12,none,.bs 28 4 [.t 9,.t 11]⟩ (.take ⟨some 13,none,.bld [.d true (.int .i64 0),.d true (.int .i64 0),.d true (.str ⟨#[]⟩),.nil] [(0,1,.t 7),(3,1,.t 12)]⟩ (.br (.cons ⟨some 14,none,.call (.c (.fn 145 [])) [.t 13]⟩ (.br (.cons ⟨none,none,.st 4 (.t 6) (.t 14)⟩ (.done) (.nil))) (.nil)))) (.nil))) (.nil))) (.nil)))))) [6]) (.ret))
theorem ok106 : FnOk Tryd.prog Tryd.f106 15 keep106 ac106 [.c 6 (some 4)]:=by
  refine ⟨?_,?_,?_,?_,?_⟩ <;> kernel_rfl

/-! spec.Pair -/
def keep107 : Nat → List Nat
  | 0 => [2,3,4]
  | 1 => [4]
  | _ => []
def ac107 : AC:=.seq (.region [⟨some 2,none,.box (.t 0)⟩,⟨some 3,none,.box (.t 1)⟩,⟨some 4,none,.alloc [.d true (.int .i64 0),.d true (.int .i64 0),.d true (.str ⟨#[]⟩),.nil]⟩] [2,3,4]) (.seq (.region [⟨some 5,none,.ld (some 4) (.t 2)⟩,⟨some 6,none,.ld (some 4) (.t 3)⟩,⟨some 7,none,.call (.c (.fn 106 [])) [.c (.d true (.int .i64 3)),.t 5,.t 6]⟩,⟨none,none,.st 4 (.t 4) (.t 7)⟩] [4]) (.ret))
theorem ok107 : FnOk Tryd.prog Tryd.f107 8 keep107 ac107 [.c 4 (some 4)]:=by
  refine ⟨?_,?_,?_,?_,?_⟩ <;> kernel_rfl

/-! spec.Hash -/
/-! impl.formOk -/
def keep109 : Nat → List Nat
  | 0 => [1]
  | 1 => [1,14]
  | 2 => [2]
  | 3 => [1,16]
  | 4 => [1,16,17]
  | 5 => [2]
  | 6 => [1,16,27]
  | 7 => [2]
  | 8 => [1,38]
  | 9 => [2]
  | 10 => [2]
  | _ => []
def ac109 : AC:=.seq (.region [⟨some 1,none,.box (.t 0)⟩,⟨some 2,none,.mv (.c (.d true (.bool false)))⟩] [1]) (.seq (.seq (.draw [⟨some 3,none,.fa 3 (.t 1)⟩,⟨some 4,none,.ld none (.t 3)⟩,⟨some 5,none,.len (.t 4)⟩,⟨some 6,none,.fa 0 (.t 1)⟩,⟨some 7,none,.ld none (.t 6)⟩,⟨some 8,none,.call (.c (.fn 146 [])) [.t 7]⟩,⟨some 9,none,.bin .neq (.t 5) (.t 8)⟩,⟨some 10,none,.mv (.t 9)⟩,⟨some 11,some (10,false),.fa 3 (.t 1)⟩,⟨some 12,some (10,false),.ld none (.t 11)⟩,⟨some 13,some (10,false),.call (.c (.fn 147 [])) [.t 12,.c (.fn 148 [])]⟩,⟨some 14,none,.pick (.t 10) (.c (.d true (.bool true))) (.t 13)⟩] [1,14]) (.cond (.t 14) (.seq (.region [⟨some 2,none,.mv (.c (.d true (.bool false)))⟩] [2]) (.ret)) (.skip))) (.seq (.seq (.region [⟨some 15,none,.fa 0 (.t 1)⟩,⟨some 16,none,.ld none (.t 15)⟩] [1,16]) (.block 0 (.seq (.region [⟨some 18,none,.bin .eql (.t 16) (.c (.d true (.int .i64 1)))⟩,⟨some 17,none,.mv (.t 18)⟩] [1,16,17]) (.cond (.t 17) (.seq (.region [⟨some 19,none,.fa 1 (.t 1)⟩,⟨some 20,none,.ld none (.t 19)⟩,⟨some 21,none,.call (.c (.fn 149 [])) [.t 20,.c (.d true (.int .i64 0)),.c (.d true (.int .i64 1000000))]⟩,⟨some 22,none,.mv (.t 21)⟩,⟨some 23,some (22,true),.fa 2 (.t 1)⟩,⟨some 24,some (22,true),.ld none (.t 23)⟩,⟨some 25,some (22,true),.bin .eql (.t 24) (.c (.d true (.str ⟨#[]⟩)))⟩,⟨some 26,none,.pick (.t 22) (.t 25) (.c (.d true (.bool false)))⟩,⟨some 2,none,.mv (.t 26)⟩] [2]) (.ret)) (.seq (.region [⟨some 28,none,.bin .eql (.t 16) (.c (.d true (.int .i64 2)))⟩,⟨some 27,none,.mv (.t 28)⟩] [1,16,27]) (.cond (.t 27) (.seq (.region [⟨some 29,none,.fa 1 (.t 1)⟩,⟨some 30,none,.ld none (.t 29)⟩,⟨some 31,none,.bin .eql (.t 30) (.c (.d true (.int .i64 0)))⟩,⟨some 32,none,.mv (.t 31)⟩,⟨some 33,some (32,true),.fa 2 (.t 1)⟩,⟨some 34,some (32,true),.ld none (.t 33)⟩,⟨some 35,some (32,true),.slen (.t 34)⟩,⟨some 36,some (32,true),.bin .leq (.t 35) (.c (.d true (.int .i64 300)))⟩,⟨some 37,none,.pick (.t 32) (.t 36) (.c (.d true (.bool false)))⟩,⟨some 2,none,.mv (.t 37)⟩] [2]) (.ret)) (.seq (.region [⟨some 39,none,.bin .eql (.t 16) (.c (.d true (.int .i64 5)))⟩,⟨some 38,none,.mv (.t 39)⟩] [1,38]) (.cond (.t 38) (.seq (.draw [⟨some 40,none,.fa 1 (.t 1)⟩,⟨some 41,none,.ld none (.t 40)⟩,⟨some 42,none,.bin .eql (.t 41) (.c (.d true (.int .i64 0)))⟩,⟨some 43,none,.mv (.t 42)⟩,⟨some 44,some (43,true),.fa 2 (.t 1)⟩,⟨some 45,some (43,true),.ld none (.t 44)⟩,⟨some 46,some (43,true),.bin .eql (.t 45) (.c (.d true (.str ⟨#[]⟩)))⟩,⟨some 47,none,.pick (.t 43) (.t 46) (.c (.d true (.bool false)))⟩,⟨some 48,none,.mv (.t 47)⟩,⟨some 49,some (48,true),.fa 3 (.t 1)⟩,⟨some 50,some (48,true),.ld none (.t 49)⟩,⟨some 51,some (48,true),.ia 4 (.t 50) (.c (.d true (.int .i64 1)))⟩,⟨some 52,some (48,true),.ld (some 4) (.t 51)⟩,⟨some 53,some (48,true),.fa 3 (.t 1)⟩,⟨some 54,some (48,true),.ld none (.t 53)⟩,⟨some 55,some (48,true),.ia 4 (.t 54) (.c (.d true (.int .i64 0)))⟩,⟨some 56,some (48,true),.ld (some 4) (.t 55)⟩,⟨some 57,some (48,true),.call (.c (.fn 52 [])) [.t 52,.t 56]⟩,⟨some 58,some (48,true),.not (.t 57)⟩,⟨some 59,none,.pick (.t 48) (.t 58) (.c (.d true (.bool false)))⟩,⟨some 2,none,.mv (.t 59)⟩] [2]) (.ret)) (.skip))))))))) (.seq (.region [⟨some 60,none,.fa 1 (.t 1)⟩,⟨some 61,none,.ld none (.t 60)⟩,⟨some 62,none,.bin .eql (.t 61) (.c (.d true (.int .i64 0)))⟩,⟨some 63,none,.mv (.t 62)⟩,⟨some 64,some (63,true),.fa 2 (.t 1)⟩,⟨some 65,some (63,true),.ld none (.t 64)⟩,⟨some 66,some (63,true),.bin .eql (.t 65) (.c (.d true (.str ⟨#[]⟩)))⟩,⟨some 67,none,.pick (.t 63) (.t 66) (.c (.d true (.bool false)))⟩,⟨some 2,none,.mv (.t 67)⟩] [2]) (.ret))))
theorem ok109 : FnOk Tryd.prog Tryd.f109 68 keep109 ac109 [.t 2]:=by
  refine ⟨?_,?_,?_,?_,?_⟩ <;> kernel_rfl

/-! spec.l1Right -/
def keep110 : Nat → List Nat
  | 0 => [1]
  | 1 => [1,42]
  | 2 => [2]
  | 3 => [1,3]
  | 4 => [1,3,47]
  | 5 => [1,3]
  | 6 => [1,3,56]
  | 7 => [2]
  | 8 => [2]
  | _ => []
def ac110 : AC:=.seq (.region [⟨some 1,none,.box (.t 0)⟩,⟨some 2,none,.mv (.c (.d true (.bool false)))⟩] [1]) (.seq (.seq (.draw [⟨some 4,none,.fa 0 (.t 1)⟩,⟨some 5,none,.ld none (.t 4)⟩,⟨some 6,none,.call (.c (.fn 150 [])) [.t 5]⟩,⟨some 7,none,.fa 3 (.t 1)⟩,⟨some 8,none,.ld none (.t 7)⟩,⟨some 9,none,.len (.t 8)⟩,⟨some 10,none,.bin .neq (.t 6) (.t 9)⟩,⟨some 11,none,.mv (.t 10)⟩,⟨some 12,some (11,false),.fa 0 (.t 1)⟩,⟨some 13,some (11,false),.ld none (.t 12)⟩,⟨some 14,some (11,false),.bin .neq (.t 13) (.c (.d true (.int .i64 1)))⟩,⟨some 15,some (11,false),.mv (.t 14)⟩,⟨some 16,some (15,true),.fa 1 (.t 1)⟩,⟨some 17,some (15,true),.ld none (.t 16)⟩,⟨some 18,some (15,true),.bin .neq (.t 17) (.c (.d true (.int .i64 0)))⟩,⟨some 19,some (11,false),.pick (.t 15) (.t 18) (.c (.d true (.bool false)))⟩,⟨some 20,none,.pick (.t 11) (.c (.d true (.bool true))) (.t 19)⟩,⟨some 21,none,.mv (.t 20)⟩,⟨some 22,some (21,false),.fa 0 (.t 1)⟩,⟨some 23,some (21,false),.ld none (.t 22)⟩,⟨some 24,some (21,false),.bin .neq (.t 23) (.c (.d true (.int .i64 2)))⟩,⟨some 25,some (21,false),.mv (.t 24)⟩,⟨some 26,some (25,true),.fa 2 (.t 1)⟩,⟨some 27,some (25,true),.ld none (.t 26)⟩,⟨some 28,some (25,true),.bin .neq (.t 27) (.c (.d true (.str ⟨#[]⟩)))⟩,⟨some 29,some (21,false),.pick (.t 25) (.t 28) (.c (.d true (.bool false)))⟩,⟨some 30,none,.pick (.t 21) (.c (.d true (.bool true))) (.t 29)⟩,⟨some 31,none,.mv (.t 30)⟩,⟨some 32,some (31,false),.fa 1 (.t 1)⟩,⟨some 33,some (31,false),.ld none (.t 32)⟩,⟨some 34,some (31,false),.call (.c (.fn 114 [])) [.t 33,.c (.d true (.int .i64 0)),.c (.d true (.int .i64 1000000))]⟩,⟨some 35,some (31,false),.not (.t 34)⟩,⟨some 36,none,.pick (.t 31) (.c (.d true (.bool true))) (.t 35)⟩,⟨some 37,none,.mv (.t 36)⟩,⟨some 38,some (37,false),.fa 2 (.t 1)⟩,⟨some 39,some (37,false),.ld none (.t 38)⟩,⟨some 40,some (37,false),.slen (.t 39)⟩,⟨some 41,some (37,false),.bin .gtr (.t 40) (.c (.d true (.int .i64 300)))⟩,⟨some 42,none,.pick (.t 37) (.c (.d true (.bool true))) (.t 41)⟩] [1,42]) (.cond (.t 42) (.seq (.region [⟨some 2,none,.mv (.c (.d true (.bool false)))⟩] [2]) (.ret)) (.skip))) (.seq (.seq (.region [⟨some 3,none,.mv (.c (.d true (.int .i64 0)))⟩] [1,3]) (.block 0 (.loop (.seq (.seq (.region [⟨some 43,none,.mv (.t 3)⟩,⟨some 44,none,.fa 3 (.t 1)⟩,⟨some 45,none,.ld none (.t 44)⟩,⟨some 46,none,.len (.t 45)⟩,⟨some 47,none,.bin .lss (.t 43) (.t 46)⟩] [1,3,47]) (.cond (.t 47) (.skip) (.exit 0))) (.seq (.block 1 (.seq (.region [⟨some 50,none,.fa 3 (.t 1)⟩,⟨some 51,none,.ld none (.t 50)⟩,⟨some 52,none,.mv (.t 3)⟩,⟨some 53,none,.ia 4 (.t 51) (.t 52)⟩,⟨some 54,none,.ld (some 4) (.t 53)⟩,⟨some 55,none,.call (.c (.fn 110 [])) [.t 54]⟩,⟨some 56,none,.not (.t 55)⟩] [1,3,56]) (.cond (.t 56) (.seq (.region [⟨some 2,none,.mv (.c (.d true (.bool false)))⟩] [2]) (.ret)) (.skip)))) (.region [⟨some 48,none,.mv (.t 3)⟩,⟨some 49,none,.bin .add (.t 48) (.c (.d true (.int .i64 1)))⟩,⟨some 3,none,.mv (.t 49)⟩] [1,3])))))) (.seq (.draw [⟨some 57,none,.fa 0 (.t 1)⟩,⟨some 58,none,.ld none (.t 57)⟩,⟨some 59,none,.bin .neq (.t 58) (.c (.d true (.int .i64 5)))⟩,⟨some 60,none,.mv (.t 59)⟩,⟨some 61,some (60,false),.fa 3 (.t 1)⟩,⟨some 62,some (60,false),.ld none (.t 61)⟩,⟨some 63,some (60,false),.ia 4 (.t 62) (.c (.d true (.int .i64 1)))⟩,⟨some 64,some (60,false),.ld (some 4) (.t 63)⟩,⟨some 65,some (60,false),.fa 3 (.t 1)⟩,⟨some 66,some (60,false),.ld none (.t 65)⟩,⟨some 67,some (60,false),.ia 4 (.t 66) (.c (.d true (.int .i64 0)))⟩,⟨some 68,some (60,false),.ld (some 4) (.t 67)⟩,⟨some 69,some (60,false),.call (.c (.fn 53 [])) [.t 64,.t 68]⟩,⟨some 70,some (60,false),.not (.t 69)⟩,⟨some 71,none,.pick (.t 60) (.c (.d true (.bool true))) (.t 70)⟩,⟨some 2,none,.mv (.t 71)⟩] [2]) (.ret))))
theorem ok110 : FnOk Tryd.prog Tryd.f110 72 keep110 ac110 [.t 2]:=by
  refine ⟨?_,?_,?_,?_,?_⟩ <;> kernel_rfl

/-! spec.l1Digits -/
def keep113 : Nat → List Nat
  | 0 => [0]
  | 1 => [0,7]
  | 2 => [2]
  | 3 => [0,3]
  | 4 => [0,3,4]
  | 5 => [0,3,4,11]
  | 6 => [0,3,4,5]
  | 7 => [0,3,4,5,15]
  | 8 => [0,3,4,5]
  | 9 => [0,3,4]
  | 10 => [0,3,4]
  | 11 => [4,27]
  | 12 => [2]
  | 13 => [2]
  | _ => []
def ac113 : AC:=.seq (.region [⟨some 2,none,.mv (.c (.d true (.str ⟨#[]⟩)))⟩] [0]) (.seq (.seq (.region [⟨some 6,none,.mv (.t 0)⟩,⟨some 7,none,.bin .eql (.t 6) (.c (.d true (.int .i64 0)))⟩] [0,7]) (.cond (.t 7) (.seq (.region [⟨some 2,none,.mv (.c (.d true (.str ⟨#[48]⟩)))⟩] [2]) (.ret)) (.skip))) (.seq (.region [⟨some 8,none,.mv (.t 0)⟩,⟨some 9,none,.bin .lss (.t 8) (.c (.d true (.int .i64 0)))⟩,⟨some 3,none,.mv (.t 9)⟩] [0,3]) (.seq (.region [⟨some 4,none,.mv (.c (.d true (.str ⟨#[]⟩)))⟩] [0,3,4]) (.seq (.block 0 (.loop (.seq (.seq (.region [⟨some 10,none,.mv (.t 0)⟩,⟨some 11,none,.bin .neq (.t 10) (.c (.d true (.int .i64 0)))⟩] [0,3,4,11]) (.cond (.t 11) (.skip) (.exit 0))) (.block 1 (.seq (.region [⟨some 12,none,.mv (.t 0)⟩,⟨some 13,none,.bin .rem (.t 12) (.c (.d true (.int .i64 10)))⟩,⟨some 5,none,.mv (.t 13)⟩] [0,3,4,5]) (.seq (.seq (.region [⟨some 14,none,.mv (.t 5)⟩,⟨some 15,none,.bin .lss (.t 14) (.c (.d true (.int .i64 0)))⟩] [0,3,4,5,15]) (.cond (.t 15) (.region [⟨some 16,none,.mv (.t 5)⟩,⟨some 17,none,.bin .sub (.c (.d true (.int .i64 0))) (.t 16)⟩,⟨some 5,none,.mv (.t 17)⟩] [0,3,4,5]) (.skip))) (.seq (.region [⟨some 18,none,.mv (.t 5)⟩,⟨some 19,none,.bin .add (.c (.d true (.int .i64 48))) (.t 18)⟩,⟨some 20,none,.cvi .u8 (.t 19)⟩,⟨some 21,none,.bs 5 1 [.t 20]⟩,⟨some 22,none,.bstr (.t 21)⟩,⟨some 23,none,.mv (.t 4)⟩,⟨some 24,none,.bin .add (.t 22) (.t 23)⟩,⟨some 4,none,.mv (.t 24)⟩] [0,3,4]) (.region [⟨some 25,none,.mv (.t 0)⟩,⟨some 26,none,.bin .quo (.t 25) (.c (.d true (.int .i64 10)))⟩,⟨some 0,none,.mv (.t 26)⟩] [0,3,4])))))))) (.seq (.seq (.region [⟨some 27,none,.mv (.t 3)⟩] [4,27]) (.cond (.t 27) (.seq (.region [⟨some 28,none,.mv (.t 4)⟩,⟨some 29,none,.bin .add (.c (.d true (.str ⟨#[45]⟩))) (.t 28)⟩,⟨some 2,none,.mv (.t 29)⟩] [2]) (.ret)) (.skip))) (.seq (.region [⟨some 30,none,.mv (.t 4)⟩,⟨some 2,none,.mv (.t 30)⟩] [2]) (.ret)))))))
theorem ok113 : FnOk Tryd.prog Tryd.f113 31 keep113 ac113 [.t 2]:=by
  refine ⟨?_,?_,?_,?_,?_⟩ <;> kernel_rfl

/-! spec.l1In -/
def keep114 : Nat → List Nat
  | 0 => [0,1,2]
  | 1 => [6]
  | _ => []
def ac114 : AC:=.seq (.region [⟨some 6,none,.mv (.c (.d true (.bool false)))⟩] [0,1,2]) (.seq (.region [⟨some 7,none,.mv (.t 0)⟩,⟨some 8,none,.mv (.t 1)⟩,⟨some 9,none,.bin .geq (.t 7) (.t 8)⟩,⟨some 10,none,.mv (.t 9)⟩,⟨some 11,some (10,true),.mv (.t 0)⟩,⟨some 12,some (10,true),.mv (.t 2)⟩,⟨some 13,some (10,true),.bin .leq (.t 11) (.t 12)⟩,⟨some 14,none,.pick (.t 10) (.t 13) (.c (.d true (.bool false)))⟩,⟨some 6,none,.mv (.t 14)⟩] [6]) (.ret))
theorem ok114 : FnOk Tryd.prog Tryd.f114 15 keep114 ac114 [.t 6]:=by
  refine ⟨?_,?_,?_,?_,?_⟩ <;> kernel_rfl

/-! laws.szStringS -/
/-! spec.PolicyOk -/
/-! laws.toStringS -/
/-! impl.PolicyOk -/
/-! impl.isTime -/
/-! impl.modes -/
/-! laws.eqStringS -/
/-! laws.szTerm -/
def keep122 : Nat → List Nat
  | 0 => [1,2]
  | 1 => [1,2]
  | 2 => [1,2,11]
  | 3 => [4]
  | 4 => [1]
  | 5 => [1,17]
  | 6 => [4]
  | 7 => [4]
  | _ => []
def ac122 : AC:=.seq (.region [⟨some 2,none,.box (.t 0)⟩,⟨some 4,none,.mv (.c (.d true (.int .i64 0)))⟩] [1,2]) (.seq (.region [⟨some 5,none,.mv (.t 1)⟩,⟨some 6,none,.fa 2 (.t 2)⟩,⟨some 7,none,.ld none (.t 6)⟩,⟨some 8,none,.slen (.t 7)⟩,⟨some 9,none,.bin .sub (.t 5) (.t 8)⟩,⟨some 1,none,.mv (.t 9)⟩] [1,2]) (.seq (.seq (.region [⟨some 10,none,.mv (.t 1)⟩,⟨some 11,none,.bin .lss (.t 10) (.c (.d true (.int .i64 0)))⟩] [1,2,11]) (.cond (.t 11) (.seq (.region [⟨some 4,none,.mv (.c (.d true (.int .i64 (-1))))⟩] [4]) (.ret)) (.skip))) (.seq (.region [⟨some 12,none,.fa 3 (.t 2)⟩,⟨some 13,none,.ld none (.t 12)⟩,⟨some 14,none,.mv (.t 1)⟩,⟨some 15,none,.call (.c (.fn 158 [])) [.t 13,.t 14]⟩,⟨some 1,none,.mv (.t 15)⟩] [1]) (.seq (.seq (.region [⟨some 16,none,.mv (.t 1)⟩,⟨some 17,none,.bin .lss (.t 16) (.c (.d true (.int .i64 0)))⟩] [1,17]) (.cond (.t 17) (.seq (.region [⟨some 4,none,.mv (.c (.d true (.int .i64 (-1))))⟩] [4]) (.ret)) (.skip))) (.seq (.region [⟨some 18,none,.mv (.t 1)⟩,⟨some 4,none,.mv (.t 18)⟩] [4]) (.ret))))))
theorem ok122 : FnOk Tryd.prog Tryd.f122 19 keep122 ac122 [.t 4]:=by
  refine ⟨?_,?_,?_,?_,?_⟩ <;> kernel_rfl

/-! spec.CertOk -/
def keep123 : Nat → List Nat
  | 0 => [1]
  | 1 => [2]
  | _ => []
def ac123 : AC:=.seq (.region [⟨some 1,none,.box (.t 0)⟩,⟨some 2,none,.mv (.c (.d true (.bool false)))⟩] [1]) (.seq (.region [⟨some 3,none,.fa 0 (.t 1)⟩,⟨some 4,none,.ld none (.t 3)⟩,⟨some 5,none,.call (.c (.fn 27 [])) [.t 4]⟩,⟨some 6,none,.mv (.t 5)⟩,⟨some 7,some (6,true),.fa 1 (.t 1)⟩,⟨some 8,some (6,true),.fa 0 (.t 7)⟩,⟨some 9,some (6,true),.ld none (.t 8)⟩,⟨some 10,some (6,true),.bin .eql (.t 9) (.c (.d true (.int .i64 4)))⟩,⟨some 11,none,.pick (.t 6) (.t 10) (.c (.d true (.bool false)))⟩,⟨some 12,none,.mv (.t 11)⟩,⟨some 13,some (12,true),.fa 1 (.t 1)⟩,⟨some 14,some (12,true),.ld (some 4) (.t 13)⟩,⟨some 15,some (12,true),.call (.c (.fn 56 [])) [.t 14]⟩,⟨some 16,none,.pick (.t 12) (.t 15) (.c (.d true (.bool false)))⟩,⟨some 17,none,.mv (.t 16)⟩,⟨some 18,some (17,true),.fa 5 (.t 1)⟩,⟨some 19,some (17,true),.ld none (.t 18)⟩,⟨some 20,some (17,true),.call (.c (.fn 114 [])) [.t 19,.c (.d true (.int .i64 0)),.c (.d true (.int .i64 100000))]⟩,⟨some 21,none,.pick (.t 17) (.t 20) (.c (.d true (.bool false)))⟩,⟨some 2,none,.mv (.t 21)⟩] [2]) (.ret))
theorem ok123 : FnOk Tryd.prog Tryd.f123 22 keep123 ac123 [.t 2]:=by
  refine ⟨?_,?_,?_,?_,?_⟩ <;> kernel_rfl

/-! spec.Atom -/
def keep124 : Nat → List Nat
  | 0 => [0,2]
  | 1 => [2]
  | _ => []
def ac124 : AC:=.seq (.region [⟨some 2,none,.alloc [.d true (.int .i64 0),.d true (.int .i64 0),.d true (.str ⟨#[]⟩),.nil]⟩] [0,2]) (.seq (.region [⟨some 3,none,.mv (.t 0)⟩,⟨some 4,none,.bld [.d true (.int .i64 0),.d true (.int .i64 0),.d true (.str ⟨#[]⟩),.nil] [(0,1,.c (.d true (.int .i64 1))),(1,1,.t 3)]⟩,⟨some 5,none,.call (.c (.fn 145 [])) [.t 4]⟩,⟨none,none,.st 4 (.t 2) (.t 5)⟩] [2]) (.ret))
theorem ok124 : FnOk Tryd.prog Tryd.f124 6 keep124 ac124 [.c 2 (some 4)]:=by
  refine ⟨?_,?_,?_,?_,?_⟩ <;> kernel_rfl

/-! laws.toTerm -/
def keep125 : Nat → List Nat
  | 0 => [1,2]
  | 1 => [1,2,3]
  | 2 => [1,2,3]
  | 3 => [1,2,3]
  | 4 => [1,2,3]
  | 5 => [2,3]
  | 6 => [2]
  | _ => []
def ac125 : AC:=.seq (.region [⟨some 1,none,.box (.t 0)⟩,⟨some 2,none,.alloc [.d true (.int .i64 0),.d true (.int .i64 0),.d true (.str ⟨#[]⟩),.nil]⟩] [1,2]) (.seq (.region [⟨some 3,none,.alloc [.d true (.int .i64 0),.d true (.int .i64 0),.d true (.str ⟨#[]⟩),.nil]⟩] [1,2,3]) (.seq (.region [⟨some 4,none,.fa 0 (.t 1)⟩,⟨some 5,none,.ld none (.t 4)⟩,⟨some 6,none,.fa 0 (.t 3)⟩,⟨none,none,.st 1 (.t 6) (.t 5)⟩] [1,2,3]) (.seq (.region [⟨some 7,none,.fa 1 (.t 1)⟩,⟨some 8,none,.ld none (.t 7)⟩,⟨some 9,none,.fa 1 (.t 3)⟩,⟨none,none,.st 1 (.t 9) (.t 8)⟩] [1,2,3]) (.seq (.region [⟨some 10,none,.fa 2 (.t 1)⟩,⟨some 11,none,.ld none (.t 10)⟩,⟨some 12,none,.fa 2 (.t 3)⟩,⟨none,none,.st 1 (.t 12) (.t 11)⟩] [1,2,3]) (.seq (.region [⟨some 13,none,.fa 3 (.t 1)⟩,⟨some 14,none,.ld none (.t 13)⟩,⟨some 15,none,.call (.c (.fn 159 [])) [.t 14]⟩,⟨some 16,none,.fa 3 (.t 3)⟩,⟨none,none,.st 1 (.t 16) (.t 15)⟩] [2,3]) (.seq (.region [⟨some 17,none,.ld (some 4) (.t 3)⟩,⟨none,none,.st 4 (.t 2) (.t 17)⟩] [2]) (.ret)))))))
theorem ok125 : FnOk Tryd.prog Tryd.f125 18 keep125 ac125 [.c 2 (some 4)]:=by
  refine ⟨?_,?_,?_,?_,?_⟩ <;> kernel_rfl

/-! impl.CertOk -/
def keep126 : Nat → List Nat
  | 0 => [1]
  | 1 => [2]
  | _ => []
def ac126 : AC:=.seq (.region [⟨some 1,none,.box (.t 0)⟩,⟨some 2,none,.mv (.c (.d true (.bool false)))⟩] [1]) (.seq (.region [⟨some 3,none,.fa 0 (.t 1)⟩,⟨some 4,none,.ld none (.t 3)⟩,⟨some 5,none,.call (.c (.fn 26 [])) [.t 4]⟩,⟨some 6,none,.mv (.t 5)⟩,⟨some 7,some (6,true),.fa 1 (.t 1)⟩,⟨some 8,some (6,true),.fa 0 (.t 7)⟩,⟨some 9,some (6,true),.ld none (.t 8)⟩,⟨some 10,some (6,true),.bin .eql (.t 9) (.c (.d true (.int .i64 4)))⟩,⟨some 11,none,.pick (.t 6) (.t 10) (.c (.d true (.bool false)))⟩,⟨some 12,none,.mv (.t 11)⟩,⟨some 13,some (12,true),.fa 1 (.t 1)⟩,⟨some 14,some (12,true),.ld (some 4) (.t 13)⟩,⟨some 15,some (12,true),.call (.c (.fn 55 [])) [.t 14]⟩,⟨some 16,none,.pick (.t 12) (.t 15) (.c (.d true (.bool false)))⟩,⟨some 17,none,.mv (.t 16)⟩,⟨some 18,some (17,true),.fa 5 (.t 1)⟩,⟨some 19,some (17,true),.ld none (.t 18)⟩,⟨some 20,some (17,true),.call (.c (.fn 149 [])) [.t 19,.c (.d true (.int .i64 0)),.c (.d true (.int .i64 100000))]⟩,⟨some 21,none,.pick (.t 17) (.t 20) (.c (.d true (.bool false)))⟩,⟨some 2,none,.mv (.t 21)⟩] [2]) (.ret))
theorem ok126 : FnOk Tryd.prog Tryd.f126 22 keep126 ac126 [.t 2]:=by
  refine ⟨?_,?_,?_,?_,?_⟩ <;> kernel_rfl

/-! impl.text -/
def keep127 : Nat → List Nat
  | 0 => [0,2]
  | 1 => [2]
  | _ => []
def ac127 : AC:=.seq (.region [⟨some 2,none,.alloc [.d true (.int .i64 0),.d true (.int .i64 0),.d true (.str ⟨#[]⟩),.nil]⟩] [0,2]) (.seq (.region [⟨some 3,none,.mv (.t 0)⟩,⟨some 4,none,.bld [.d true (.int .i64 0),.d true (.int .i64 0),.d true (.str ⟨#[]⟩),.nil] [(0,1,.c (.d true (.int .i64 2))),(2,1,.t 3)]⟩,⟨none,none,.st 4 (.t 2) (.t 4)⟩] [2]) (.ret))
theorem ok127 : FnOk Tryd.prog Tryd.f127 5 keep127 ac127 [.c 2 (some 4)]:=by
  refine ⟨?_,?_,?_,?_,?_⟩ <;> kernel_rfl

/-! laws.eqTermS -/
def keep128 : Nat → List Nat
  | 0 => [0,1]
  | 1 => [0,1,10]
  | 2 => [4]
  | 3 => [0,1,5]
  | 4 => [0,1,5,14]
  | 5 => [0,1,5]
  | 6 => [0,1,5,26]
  | 7 => [4]
  | 8 => [4]
  | _ => []
def ac128 : AC:=.seq (.region [⟨some 4,none,.mv (.c (.d true (.bool false)))⟩] [0,1]) (.seq (.seq (.region [⟨some 6,none,.mv (.t 0)⟩,⟨some 7,none,.len (.t 6)⟩,⟨some 8,none,.mv (.t 1)⟩,⟨some 9,none,.len (.t 8)⟩,⟨some 10,none,.bin .neq (.t 7) (.t 9)⟩] [0,1,10]) (.cond (.t 10) (.seq (.region [⟨some 4,none,.mv (.c (.d true (.bool false)))⟩] [4]) (.ret)) (.skip))) (.seq (.seq (.region [⟨some 5,none,.mv (.c (.d true (.int .i64 0)))⟩] [0,1,5]) (.block 0 (.loop (.seq (.seq (.region [⟨some 11,none,.mv (.t 5)⟩,⟨some 12,none,.mv (.t 0)⟩,⟨some 13,none,.len (.t 12)⟩,⟨some 14,none,.bin .lss (.t 11) (.t 13)⟩] [0,1,5,14]) (.cond (.t 14) (.skip) (.exit 0))) (.seq (.block 1 (.seq (.draw [⟨some 17,none,.mv (.t 0)⟩,⟨some 18,none,.mv (.t 5)⟩,⟨some 19,none,.ia 4 (.t 17) (.t 18)⟩,⟨some 20,none,.ld (some 4) (.t 19)⟩,⟨some 21,none,.mv (.t 1)⟩,⟨some 22,none,.mv (.t 5)⟩,⟨some 23,none,.ia 4 (.t 21) (.t 22)⟩,⟨some 24,none,.ld (some 4) (.t 23)⟩,⟨some 25,none,.call (.c (.fn 70 [])) [.t 20,.t 24]⟩,⟨some 26,none,.not (.t 25)⟩] [0,1,5,26]) (.cond (.t 26) (.seq (.region [⟨some 4,none,.mv (.c (.d true (.bool false)))⟩] [4]) (.ret)) (.skip)))) (.region [⟨some 15,none,.mv (.t 5)⟩,⟨some 16,none,.bin .add (.t 15) (.c (.d true (.int .i64 1)))⟩,⟨some 5,none,.mv (.t 16)⟩] [0,1,5])))))) (.seq (.region [⟨some 4,none,.mv (.c (.d true (.bool true)))⟩] [4]) (.ret))))
theorem ok128 : FnOk Tryd.prog Tryd.f128 27 keep128 ac128 [.t 4]:=by
  refine ⟨?_,?_,?_,?_,?_⟩ <;> kernel_rfl

/-! laws.markTermS -/
/-! laws.heldTermS -/
def keep130 : Nat → List Nat
  | 0 => [0,1]
  | 1 => [0,1,5]
  | 2 => [0,1,5,9]
  | 3 => [0,1,5]
  | 4 => [0,1,5,18]
  | 5 => [4]
  | 6 => [0,1,5]
  | 7 => [0,1,5,27]
  | 8 => [4]
  | 9 => [0,1,5]
  | 10 => [0,1,5,37]
  | 11 => [4]
  | 12 => [0,1,5]
  | 13 => [0,1,5]
  | 14 => [0,1,5,48]
  | 15 => [4]
  | 16 => [4]
  | _ => []
def ac130 : AC:=.seq (.region [⟨some 4,none,.mv (.c (.d true (.int .i64 0)))⟩] [0,1]) (.seq (.seq (.region [⟨some 5,none,.mv (.c (.d true (.int .i64 0)))⟩] [0,1,5]) (.block 0 (.loop (.seq (.seq (.region [⟨some 6,none,.mv (.t 5)⟩,⟨some 7,none,.mv (.t 0)⟩,⟨some 8,none,.len (.t 7)⟩,⟨some 9,none,.bin .lss (.t 6) (.t 8)⟩] [0,1,5,9]) (.cond (.t 9) (.skip) (.exit 0))) (.seq (.block 1 (.seq (.seq (.region [⟨some 12,none,.mv (.t 0)⟩,⟨some 13,none,.mv (.t 5)⟩,⟨some 14,none,.ia 4 (.t 12) (.t 13)⟩,⟨some 15,none,.fa 0 (.t 14)⟩,⟨some 16,none,.ld none (.t 15)⟩,⟨some 17,none,.mv (.t 1)⟩,⟨some 18,none,.bin .neq (.t 16) (.t 17)⟩] [0,1,5,18]) (.cond (.t 18) (.seq (.region [⟨some 4,none,.mv (.c (.d true (.int .i64 (-1))))⟩] [4]) (.ret)) (.skip))) (.seq (.region [⟨some 19,none,.mv (.t 1)⟩,⟨some 20,none,.bin .add (.t 19) (.c (.d true (.int .i64 1)))⟩,⟨some 1,none,.mv (.t 20)⟩] [0,1,5]) (.seq (.seq (.region [⟨some 21,none,.mv (.t 0)⟩,⟨some 22,none,.mv (.t 5)⟩,⟨some 23,none,.ia 4 (.t 21) (.t 22)⟩,⟨some 24,none,.fa 1 (.t 23)⟩,⟨some 25,none,.ld none (.t 24)⟩,⟨some 26,none,.mv (.t 1)⟩,⟨some 27,none,.bin .neq (.t 25) (.t 26)⟩] [0,1,5,27]) (.cond (.t 27) (.seq (.region [⟨some 4,none,.mv (.c (.d true (.int .i64 (-1))))⟩] [4]) (.ret)) (.skip))) (.seq (.region [⟨some 28,none,.mv (.t 1)⟩,⟨some 29,none,.bin .add (.t 28) (.c (.d true (.int .i64 1)))⟩,⟨some 1,none,.mv (.t 29)⟩] [0,1,5]) (.seq (.seq (.draw [⟨some 30,none,.mv (.t 0)⟩,⟨some 31,none,.mv (.t 5)⟩,⟨some 32,none,.ia 4 (.t 30) (.t 31)⟩,⟨some 33,none,.fa 2 (.t 32)⟩,⟨some 34,none,.ld none (.t 33)⟩,⟨some 35,none,.mv (.t 1)⟩,⟨some 36,none,.call (.c (.fn 160 [])) [.t 35]⟩,⟨some 37,none,.bin .neq (.t 34) (.t 36)⟩] [0,1,5,37]) (.cond (.t 37) (.seq (.region [⟨some 4,none,.mv (.c (.d true (.int .i64 (-1))))⟩] [4]) (.ret)) (.skip))) (.seq (.region [⟨some 38,none,.mv (.t 1)⟩,⟨some 39,none,.bin .add (.t 38) (.c (.d true (.int .i64 1)))⟩,⟨some 1,none,.mv (.t 39)⟩] [0,1,5]) (.seq (.region [⟨some 40,none,.mv (.t 0)⟩,⟨some 41,none,.mv (.t 5)⟩,⟨some 42,none,.ia 4 (.t 40) (.t 41)⟩,⟨some 43,none,.fa 3 (.t 42)⟩,⟨some 44,none,.ld none (.t 43)⟩,⟨some 45,none,.mv (.t 1)⟩,⟨some 46,none,.call (.c (.fn 130 [])) [.t 44,.t 45]⟩,⟨some 1,none,.mv (.t 46)⟩] [0,1,5]) (.seq (.region [⟨some 47,none,.mv (.t 1)⟩,⟨some 48,none,.bin .lss (.t 47) (.c (.d true (.int .i64 0)))⟩] [0,1,5,48]) (.cond (.t 48) (.seq (.region [⟨some 4,none,.mv (.c (.d true (.int .i64 (-1))))⟩] [4]) (.ret)) (.skip))))))))))) (.region [⟨some 10,none,.mv (.t 5)⟩,⟨some 11,none,.bin .add (.t 10) (.c (.d true (.int .i64 1)))⟩,⟨some 5,none,.mv (.t 11)⟩] [0,1,5])))))) (.seq (.region [⟨some 49,none,.mv (.t 1)⟩,⟨some 4,none,.mv (.t 49)⟩] [4]) (.ret)))
theorem ok130 : FnOk Tryd.prog Tryd.f130 50 keep130 ac130 [.t 4]:=by
  refine ⟨?_,?_,?_,?_,?_⟩ <;> kernel_rfl

/-! impl.hasTerm -/
/-! spec.l2Has -/
/-! impl.made -/
/-! spec.l1Pick -/
/-! slices.ContainsFunc[[]string,string] -/
def keep137 : Nat → List Nat
  | 0 => [0,1]
  | 1 => [4]
  | _ => []
def ac137 : AC:=.seq (.region [⟨some 4,none,.mv (.c (.d true (.bool false)))⟩] [0,1]) (.seq (.region [⟨some 5,none,.mv (.t 0)⟩,⟨some 6,none,.mv (.t 1)⟩,⟨some 7,none,.call (.c (.fn 166 [])) [.t 5,.t 6]⟩,⟨some 8,none,.bin .geq (.t 7) (.c (.d true (.int .i64 0)))⟩,⟨some 4,none,.mv (.t 8)⟩] [4]) (.ret))
theorem ok137 : FnOk Tryd.prog Tryd.f137 9 keep137 ac137 [.t 4]:=by
  refine ⟨?_,?_,?_,?_,?_⟩ <;> kernel_rfl

/-! impl.labelsOk$1 -/
def keep138 : Nat → List Nat
  | 0 => [0]
  | 1 => [2]
  | _ => []
def ac138 : AC:=.seq (.region [⟨some 2,none,.mv (.c (.d true (.bool false)))⟩] [0]) (.seq (.region [⟨some 3,none,.mv (.t 0)⟩,⟨some 4,none,.call (.c (.fn 139 [])) [.t 3]⟩,⟨some 5,none,.not (.t 4)⟩,⟨some 2,none,.mv (.t 5)⟩] [2]) (.ret))
theorem ok138 : FnOk Tryd.prog Tryd.f138 6 keep138 ac138 [.t 2]:=by
  refine ⟨?_,?_,?_,?_,?_⟩ <;> kernel_rfl

/-! impl.labelOk -/
def keep139 : Nat → List Nat
  | 0 => [0]
  | 1 => [0,6,7]
  | 2 => [0,6,7,8]
  | 3 => [0,3,6,7]
  | 4 => [0,3,4,6,7]
  | 5 => [0,6,7,41]
  | 6 => [2]
  | 7 => [0,6,7]
  | 8 => [2]
  | _ => []
def ac139 : AC:=.seq (.region [⟨some 2,none,.mv (.c (.d true (.bool false)))⟩] [0]) (.seq (.seq (.region [⟨some 5,none,.mv (.t 0)⟩,⟨some 6,none,.slen (.t 5)⟩,⟨some 7,none,.mv (.c (.d true (.int .i64 0)))⟩] [0,6,7]) (.block 0 (.loop (.seq (.region [⟨some 8,none,.bin .lss (.t 7) (.t 6)⟩] [0,6,7,8]) (.seq (.cond (.t 8) (.skip) (.exit 0)) (.seq (.block 1 (.seq (.region [⟨some 9,none,.mv (.t 7)⟩,⟨some 3,none,.mv (.t 9)⟩] [0,3,6,7]) (.seq (.region [⟨some 10,none,.mv (.t 0)⟩,⟨some 11,none,.mv (.t 3)⟩,⟨some 12,none,.ix (.t 10) (.t 11)⟩,⟨some 4,none,.mv (.t 12)⟩] [0,3,4,6,7]) (.seq (.region [⟨some 13,none,.mv (.t 4)⟩,⟨some 14,none,.bin .lss (.t 13) (.c (.d true (.int .u8 97)))⟩,⟨some 15,none,.mv (.t 14)⟩,⟨some 16,some (15,false),.mv (.t 4)⟩,⟨some 17,some (15,false),.bin .gtr (.t 16) (.c (.d true (.int .u8 122)))⟩,⟨some 18,none,.pick (.t 15) (.c (.d true (.bool true))) (.t 17)⟩,⟨some 19,none,.mv (.t 18)⟩,⟨some 20,some (19,true),.mv (.t 4)⟩,⟨some 21,some (19,true),.bin .lss (.t 20) (.c (.d true (.int .u8 48)))⟩,⟨some 22,some (19,true),.mv (.t 21)⟩,⟨some 23,some (22,false),.mv (.t 4)⟩,⟨some 24,some (22,false),.bin .gtr (.t 23) (.c (.d true (.int .u8 57)))⟩,⟨some 25,some (19,true),.pick (.t 22) (.c (.d true (.bool true))) (.t 24)⟩,⟨some 26,none,.pick (.t 19) (.t 25) (.c (.d true (.bool false)))⟩,⟨some 27,none,.mv (.t 26)⟩,⟨some 28,some (27,true),.mv (.t 4)⟩,⟨some 29,some (27,true),.bin .neq (.t 28) (.c (.d true (.int .u8 45)))⟩,⟨some 30,some (27,true),.mv (.t 29)⟩,⟨some 31,some (30,false),.mv (.t 3)⟩,⟨some 32,some (30,false),.bin .eql (.t 31) (.c (.d true (.int .i64 0)))⟩,⟨some 33,some (27,true),.pick (.t 30) (.c (.d true (.bool true))) (.t 32)⟩,⟨some 34,some (27,true),.mv (.t 33)⟩,⟨some 35,some (34,false),.mv (.t 3)⟩,⟨some 36,some (34,false),.mv (.t 0)⟩,⟨some 37,some (34,false),.slen (.t 36)⟩,⟨some 38,some (34,false),.bin .sub (.t 37) (.c (.d true (.int .i64 1)))⟩,⟨some 39,some (34,false),.bin .eql (.t 35) (.t 38)⟩,⟨some 40,some (27,true),.pick (.t 34) (.c (.d true (.bool true))) (.t 39)⟩,⟨some 41,none,.pick (.t 27) (.t 40) (.c (.d true (.bool false)))⟩] [0,6,7,41]) (.cond (.t 41) (.seq (.region [⟨some 2,none,.mv (.c (.d true (.bool false)))⟩] [2]) (.ret)) (.skip)))))) (.region [⟨some 42,none,.bin .add (.t 7) (.c (.d true (.int .i64 1)))⟩,⟨some 7,none,.mv (.t 42)⟩] [0,6,7]))))))) (.seq (.region [⟨some 43,none,.mv (.t 0)⟩,⟨some 44,none,.slen (.t 43)⟩,⟨some 45,none,.call (.c (.fn 149 [])) [.t 44,.c (.d true (.int .i64 1)),.c (.d true (.int .i64 10))]⟩,⟨some 2,none,.mv (.t 45)⟩] [2]) (.ret)))
theorem ok139 : FnOk Tryd.prog Tryd.f139 46 keep139 ac139 [.t 2]:=by
  refine ⟨?_,?_,?_,?_,?_⟩ <;> kernel_rfl

/-! spec.l5Label -/
def keep140 : Nat → List Nat
  | 0 => [0]
  | 1 => [0,3]
  | 2 => [0,3,8]
  | 3 => [0,3]
  | 4 => [0,3,4]
  | 5 => [0,3,43]
  | 6 => [2]
  | 7 => [2]
  | _ => []
def ac140 : AC:=.seq (.region [⟨some 2,none,.mv (.c (.d true (.bool false)))⟩] [0]) (.seq (.seq (.region [⟨some 3,none,.mv (.c (.d true (.int .i64 0)))⟩] [0,3]) (.block 0 (.loop (.seq (.seq (.region [⟨some 5,none,.mv (.t 3)⟩,⟨some 6,none,.mv (.t 0)⟩,⟨some 7,none,.slen (.t 6)⟩,⟨some 8,none,.bin .lss (.t 5) (.t 7)⟩] [0,3,8]) (.cond (.t 8) (.skip) (.exit 0))) (.seq (.block 1 (.seq (.region [⟨some 11,none,.mv (.t 0)⟩,⟨some 12,none,.mv (.t 3)⟩,⟨some 13,none,.ix (.t 11) (.t 12)⟩,⟨some 4,none,.mv (.t 13)⟩] [0,3,4]) (.seq (.region [⟨some 14,none,.mv (.t 4)⟩,⟨some 15,none,.bin .geq (.t 14) (.c (.d true (.int .u8 97)))⟩,⟨some 16,none,.mv (.t 15)⟩,⟨some 17,some (16,true),.mv (.t 4)⟩,⟨some 18,some (16,true),.bin .leq (.t 17) (.c (.d true (.int .u8 122)))⟩,⟨some 19,none,.pick (.t 16) (.t 18) (.c (.d true (.bool false)))⟩,⟨some 20,none,.mv (.t 19)⟩,⟨some 21,some (20,false),.mv (.t 4)⟩,⟨some 22,some (20,false),.bin .geq (.t 21) (.c (.d true (.int .u8 48)))⟩,⟨some 23,some (20,false),.mv (.t 22)⟩,⟨some 24,some (23,true),.mv (.t 4)⟩,⟨some 25,some (23,true),.bin .leq (.t 24) (.c (.d true (.int .u8 57)))⟩,⟨some 26,some (20,false),.pick (.t 23) (.t 25) (.c (.d true (.bool false)))⟩,⟨some 27,none,.pick (.t 20) (.c (.d true (.bool true))) (.t 26)⟩,⟨some 28,none,.mv (.t 27)⟩,⟨some 29,some (28,false),.mv (.t 4)⟩,⟨some 30,some (28,false),.bin .eql (.t 29) (.c (.d true (.int .u8 45)))⟩,⟨some 31,some (28,false),.mv (.t 30)⟩,⟨some 32,some (31,true),.mv (.t 3)⟩,⟨some 33,some (31,true),.bin .gtr (.t 32) (.c (.d true (.int .i64 0)))⟩,⟨some 34,some (28,false),.pick (.t 31) (.t 33) (.c (.d true (.bool false)))⟩,⟨some 35,some (28,false),.mv (.t 34)⟩,⟨some 36,some (35,true),.mv (.t 3)⟩,⟨some 37,some (35,true),.mv (.t 0)⟩,⟨some 38,some (35,true),.slen (.t 37)⟩,⟨some 39,some (35,true),.bin .sub (.t 38) (.c (.d true (.int .i64 1)))⟩,⟨some 40,some (35,true),.bin .lss (.t 36) (.t 39)⟩,⟨some 41,some (28,false),.pick (.t 35) (.t 40) (.c (.d true (.bool false)))⟩,⟨some 42,none,.pick (.t 28) (.c (.d true (.bool true))) (.t 41)⟩,⟨some 43,none,.not (.t 42)⟩] [0,3,43]) (.cond (.t 43) (.seq (.region [⟨some 2,none,.mv (.c (.d true (.bool false)))⟩] [2]) (.ret)) (.skip))))) (.region [⟨some 9,none,.mv (.t 3)⟩,⟨some 10,none,.bin .add (.t 9) (.c (.d true (.int .i64 1)))⟩,⟨some 3,none,.mv (.t 10)⟩] [0,3])))))) (.seq (.region [⟨some 44,none,.mv (.t 0)⟩,⟨some 45,none,.slen (.t 44)⟩,⟨some 46,none,.call (.c (.fn 114 [])) [.t 45,.c (.d true (.int .i64 1)),.c (.d true (.int .i64 10))]⟩,⟨some 2,none,.mv (.t 46)⟩] [2]) (.ret)))
theorem ok140 : FnOk Tryd.prog Tryd.f140 47 keep140 ac140 [.t 2]:=by
  refine ⟨?_,?_,?_,?_,?_⟩ <;> kernel_rfl

/-! spec.Agree -/
/-! spec.l1Byte -/
/-! impl.cloneAll -/
def keep144 : Nat → List Nat
  | 0 => [0]
  | 1 => [0,3]
  | 2 => [3,6,7,8]
  | 3 => [3,6,7,8,9]
  | 4 => [3,5,6,7,8]
  | 5 => [3,6,7,8]
  | 6 => [3,6,7,8]
  | 7 => [2]
  | _ => []
def ac144 : AC:=.seq (.region [⟨some 2,none,.own 28 4⟩] [0]) (.seq (.region [⟨some 3,none,.own 28 4⟩] [0,3]) (.seq (.seq (.region [⟨some 6,none,.mv (.t 0)⟩,⟨some 7,none,.len (.t 6)⟩,⟨some 8,none,.mv (.c (.d true (.int .i64 0)))⟩] [3,6,7,8]) (.block 0 (.loop (.seq (.region [⟨some 9,none,.bin .lss (.t 8) (.t 7)⟩] [3,6,7,8,9]) (.seq (.cond (.t 9) (.skip) (.exit 0)) (.seq (.block 1 (.seq (.region [⟨some 10,none,.ia 4 (.t 6) (.t 8)⟩,⟨some 11,none,.ld (some 4) (.t 10)⟩,⟨some 5,none,.alloc [.d true (.int .i64 0),.d true (.int .i64 0),.d true (.str ⟨#[]⟩),.nil]⟩,⟨none,none,.st 4 (.t 5) (.t 11)⟩] [3,5,6,7,8]) (.region [⟨some 12,none,.mv (.t 3)⟩,⟨some 13,none,.ld (some 4) (.t 5)⟩,⟨some 14,none,.call (.c (.fn 99 [])) [.t 13]⟩,⟨some 15,none,.bs 28 4 [.t 14]⟩,⟨some 16,none,.app 28 4 56 (.t 12) (.t 15)⟩,⟨some 3,none,.mv (.t 16)⟩] [3,6,7,8]))) (.region [⟨some 17,none,.bin .add (.t 8) (.c (.d true (.int .i64 1)))⟩,⟨some 8,none,.mv (.t 17)⟩] [3,6,7,8]))))))) (.seq (.region [⟨some 18,none,.mv (.t 3)⟩,⟨some 2,none,.mv (.t 18)⟩] [2]) (.ret))))
theorem ok144 : FnOk Tryd.prog Tryd.f144 19 keep144 ac144 [.t 2]:=by
  refine ⟨?_,?_,?_,?_,?_⟩ <;> kernel_rfl

/-! spec.l3Ok -/
def keep145 : Nat → List Nat
  | 0 => [1,2]
  | 1 => [1,2,5]
  | 2 => [2]
  | 3 => [2]
  | _ => []
def ac145 : AC:=.seq (.region [⟨some 1,none,.box (.t 0)⟩,⟨some 2,none,.alloc [.d true (.int .i64 0),.d true (.int .i64 0),.d true (.str ⟨#[]⟩),.nil]⟩] [1,2]) (.seq (.seq (.region [⟨some 3,none,.ld (some 4) (.t 1)⟩,⟨some 4,none,.call (.c (.fn 56 [])) [.t 3]⟩,⟨some 5,none,.not (.t 4)⟩] [1,2,5]) (.cond (.t 5) (.seq (.region [⟨some 6,none,.bld [.d true (.int .i64 0),.d true (.int .i64 0),.d true (.str ⟨#[]⟩),.nil] []⟩,⟨none,none,.st 4 (.t 2) (.t 6)⟩] [2]) (.ret)) (.skip))) (.seq (.region [⟨some 7,none,.ld (some 4) (.t 1)⟩,⟨none,none,.st 4 (.t 2) (.t 7)⟩] [2]) (.ret)))
theorem ok145 : FnOk Tryd.prog Tryd.f145 8 keep145 ac145 [.c 2 (some 4)]:=by
  refine ⟨?_,?_,?_,?_,?_⟩ <;> kernel_rfl

/-! impl.arity -/
def keep146 : Nat → List Nat
  | 0 => [0]
  | 1 => [3]
  | 2 => [3,4]
  | 3 => [3,4]
  | 4 => [2]
  | 5 => [3,7]
  | 6 => [3,7]
  | 7 => [2]
  | 8 => [3,10]
  | 9 => [3,10]
  | 10 => [3,10]
  | 11 => [10]
  | 12 => [2]
  | 13 => [2]
  | _ => []
def ac146 : AC:=.seq (.region [⟨some 2,none,.mv (.c (.d true (.int .i64 0)))⟩] [0]) (.seq (.seq (.region [⟨some 3,none,.mv (.t 0)⟩] [3]) (.block 0 (.seq (.seq (.region [⟨some 5,none,.bin .eql (.t 3) (.c (.d true (.int .i64 1)))⟩,⟨some 4,none,.mv (.t 5)⟩] [3,4]) (.cond (.t 4) (.skip) (.region [⟨some 6,none,.bin .eql (.t 3) (.c (.d true (.int .i64 2)))⟩,⟨some 4,none,.mv (.t 6)⟩] [3,4]))) (.cond (.t 4) (.seq (.region [⟨some 2,none,.mv (.c (.d true (.int .i64 0)))⟩] [2]) (.ret)) (.seq (.seq (.region [⟨some 8,none,.bin .eql (.t 3) (.c (.d true (.int .i64 4)))⟩,⟨some 7,none,.mv (.t 8)⟩] [3,7]) (.cond (.t 7) (.skip) (.region [⟨some 9,none,.bin .eql (.t 3) (.c (.d true (.int .i64 6)))⟩,⟨some 7,none,.mv (.t 9)⟩] [3,7]))) (.cond (.t 7) (.seq (.region [⟨some 2,none,.mv (.c (.d true (.int .i64 1)))⟩] [2]) (.ret)) (.seq (.seq (.region [⟨some 11,none,.bin .eql (.t 3) (.c (.d true (.int .i64 3)))⟩,⟨some 10,none,.mv (.t 11)⟩] [3,10]) (.cond (.t 10) (.skip) (.seq (.region [⟨some 12,none,.bin .eql (.t 3) (.c (.d true (.int .i64 5)))⟩,⟨some 10,none,.mv (.t 12)⟩] [3,10]) (.cond (.t 10) (.skip) (.seq (.region [⟨some 13,none,.bin .eql (.t 3) (.c (.d true (.int .i64 7)))⟩,⟨some 10,none,.mv (.t 13)⟩] [3,10]) (.cond (.t 10) (.skip) (.region [⟨some 14,none,.bin .eql (.t 3) (.c (.d true (.int .i64 8)))⟩,⟨some 10,none,.mv (.t 14)⟩] [10]))))))) (.cond (.t 10) (.seq (.region [⟨some 2,none,.mv (.c (.d true (.int .i64 2)))⟩] [2]) (.ret)) (.skip))))))))) (.seq (.region [⟨some 2,none,.mv (.c (.d true (.int .i64 (-1))))⟩] [2]) (.ret)))
theorem ok146 : FnOk Tryd.prog Tryd.f146 15 keep146 ac146 [.t 2]:=by
  refine ⟨?_,?_,?_,?_,?_⟩ <;> kernel_rfl

/-! slices.ContainsFunc[[]impl.Term,impl.Term] -/
def keep147 : Nat → List Nat
  | 0 => [0,1]
  | 1 => [4]
  | _ => []
def ac147 : AC:=.seq (.region [⟨some 4,none,.mv (.c (.d true (.bool false)))⟩] [0,1]) (.seq (.region [⟨some 5,none,.mv (.t 0)⟩,⟨some 6,none,.mv (.t 1)⟩,⟨some 7,none,.call (.c (.fn 170 [])) [.t 5,.t 6]⟩,⟨some 8,none,.bin .geq (.t 7) (.c (.d true (.int .i64 0)))⟩,⟨some 4,none,.mv (.t 8)⟩] [4]) (.ret))
theorem ok147 : FnOk Tryd.prog Tryd.f147 9 keep147 ac147 [.t 4]:=by
  refine ⟨?_,?_,?_,?_,?_⟩ <;> kernel_rfl

/-! impl.formOk$1 -/
def keep148 : Nat → List Nat
  | 0 => [1]
  | 1 => [2]
  | _ => []
def ac148 : AC:=.seq (.region [⟨some 1,none,.box (.t 0)⟩,⟨some 2,none,.mv (.c (.d true (.bool false)))⟩] [1]) (.seq (.region [⟨some 3,none,.ld (some 4) (.t 1)⟩,⟨some 4,none,.call (.c (.fn 109 [])) [.t 3]⟩,⟨some 5,none,.not (.t 4)⟩,⟨some 2,none,.mv (.t 5)⟩] [2]) (.ret))
theorem ok148 : FnOk Tryd.prog Tryd.f148 6 keep148 ac148 [.t 2]:=by
  refine ⟨?_,?_,?_,?_,?_⟩ <;> kernel_rfl

/-! impl.in -/
def keep149 : Nat → List Nat
  | 0 => [0,1,2]
  | 1 => [6]
  | _ => []
def ac149 : AC:=.seq (.region [⟨some 6,none,.mv (.c (.d true (.bool false)))⟩] [0,1,2]) (.seq (.region [⟨some 7,none,.mv (.t 0)⟩,⟨some 8,none,.mv (.t 1)⟩,⟨some 9,none,.bin .geq (.t 7) (.t 8)⟩,⟨some 10,none,.mv (.t 9)⟩,⟨some 11,some (10,true),.mv (.t 0)⟩,⟨some 12,some (10,true),.mv (.t 2)⟩,⟨some 13,some (10,true),.bin .leq (.t 11) (.t 12)⟩,⟨some 14,none,.pick (.t 10) (.t 13) (.c (.d true (.bool false)))⟩,⟨some 6,none,.mv (.t 14)⟩] [6]) (.ret))
theorem ok149 : FnOk Tryd.prog Tryd.f149 15 keep149 ac149 [.t 6]:=by
  refine ⟨?_,?_,?_,?_,?_⟩ <;> kernel_rfl

/-! spec.l1Kids -/
def keep150 : Nat → List Nat
  | 0 => [0]
  | 1 => [3]
  | 2 => [3,4]
  | 3 => [3,4]
  | 4 => [2]
  | 5 => [3,7]
  | 6 => [3,7]
  | 7 => [2]
  | 8 => [3,10]
  | 9 => [3,10]
  | 10 => [3,10]
  | 11 => [10]
  | 12 => [2]
  | 13 => [2]
  | _ => []
def ac150 : AC:=.seq (.region [⟨some 2,none,.mv (.c (.d true (.int .i64 0)))⟩] [0]) (.seq (.seq (.region [⟨some 3,none,.mv (.t 0)⟩] [3]) (.block 0 (.seq (.seq (.region [⟨some 5,none,.bin .eql (.t 3) (.c (.d true (.int .i64 1)))⟩,⟨some 4,none,.mv (.t 5)⟩] [3,4]) (.cond (.t 4) (.skip) (.region [⟨some 6,none,.bin .eql (.t 3) (.c (.d true (.int .i64 2)))⟩,⟨some 4,none,.mv (.t 6)⟩] [3,4]))) (.cond (.t 4) (.seq (.region [⟨some 2,none,.mv (.c (.d true (.int .i64 0)))⟩] [2]) (.ret)) (.seq (.seq (.region [⟨some 8,none,.bin .eql (.t 3) (.c (.d true (.int .i64 4)))⟩,⟨some 7,none,.mv (.t 8)⟩] [3,7]) (.cond (.t 7) (.skip) (.region [⟨some 9,none,.bin .eql (.t 3) (.c (.d true (.int .i64 6)))⟩,⟨some 7,none,.mv (.t 9)⟩] [3,7]))) (.cond (.t 7) (.seq (.region [⟨some 2,none,.mv (.c (.d true (.int .i64 1)))⟩] [2]) (.ret)) (.seq (.seq (.region [⟨some 11,none,.bin .eql (.t 3) (.c (.d true (.int .i64 3)))⟩,⟨some 10,none,.mv (.t 11)⟩] [3,10]) (.cond (.t 10) (.skip) (.seq (.region [⟨some 12,none,.bin .eql (.t 3) (.c (.d true (.int .i64 5)))⟩,⟨some 10,none,.mv (.t 12)⟩] [3,10]) (.cond (.t 10) (.skip) (.seq (.region [⟨some 13,none,.bin .eql (.t 3) (.c (.d true (.int .i64 7)))⟩,⟨some 10,none,.mv (.t 13)⟩] [3,10]) (.cond (.t 10) (.skip) (.region [⟨some 14,none,.bin .eql (.t 3) (.c (.d true (.int .i64 8)))⟩,⟨some 10,none,.mv (.t 14)⟩] [10]))))))) (.cond (.t 10) (.seq (.region [⟨some 2,none,.mv (.c (.d true (.int .i64 2)))⟩] [2]) (.ret)) (.skip))))))))) (.seq (.region [⟨some 2,none,.mv (.c (.d true (.int .i64 (-1))))⟩] [2]) (.ret)))
theorem ok150 : FnOk Tryd.prog Tryd.f150 15 keep150 ac150 [.t 2]:=by
  refine ⟨?_,?_,?_,?_,?_⟩ <;> kernel_rfl

/-! spec.l6Domain -/
/-! impl.domainOk -/
/-! impl.PolicyOk$1 -/
/-! laws.szTermS -/
def keep158 : Nat → List Nat
  | 0 => [0,1]
  | 1 => [0,1]
  | 2 => [0,1,11]
  | 3 => [4]
  | 4 => [0,1,5]
  | 5 => [0,1,5,15]
  | 6 => [0,1,5]
  | 7 => [0,1,5]
  | 8 => [0,1,5,25]
  | 9 => [4]
  | 10 => [4]
  | _ => []
def ac158 : AC:=.seq (.region [⟨some 4,none,.mv (.c (.d true (.int .i64 0)))⟩] [0,1]) (.seq (.region [⟨some 6,none,.mv (.t 1)⟩,⟨some 7,none,.mv (.t 0)⟩,⟨some 8,none,.len (.t 7)⟩,⟨some 9,none,.bin .sub (.t 6) (.t 8)⟩,⟨some 1,none,.mv (.t 9)⟩] [0,1]) (.seq (.seq (.region [⟨some 10,none,.mv (.t 1)⟩,⟨some 11,none,.bin .lss (.t 10) (.c (.d true (.int .i64 0)))⟩] [0,1,11]) (.cond (.t 11) (.seq (.region [⟨some 4,none,.mv (.c (.d true (.int .i64 (-1))))⟩] [4]) (.ret)) (.skip))) (.seq (.seq (.region [⟨some 5,none,.mv (.c (.d true (.int .i64 0)))⟩] [0,1,5]) (.block 0 (.loop (.seq (.seq (.region [⟨some 12,none,.mv (.t 5)⟩,⟨some 13,none,.mv (.t 0)⟩,⟨some 14,none,.len (.t 13)⟩,⟨some 15,none,.bin .lss (.t 12) (.t 14)⟩] [0,1,5,15]) (.cond (.t 15) (.skip) (.exit 0))) (.seq (.block 1 (.seq (.region [⟨some 18,none,.mv (.t 0)⟩,⟨some 19,none,.mv (.t 5)⟩,⟨some 20,none,.ia 4 (.t 18) (.t 19)⟩,⟨some 21,none,.ld (some 4) (.t 20)⟩,⟨some 22,none,.mv (.t 1)⟩,⟨some 23,none,.call (.c (.fn 122 [])) [.t 21,.t 22]⟩,⟨some 1,none,.mv (.t 23)⟩] [0,1,5]) (.seq (.region [⟨some 24,none,.mv (.t 1)⟩,⟨some 25,none,.bin .lss (.t 24) (.c (.d true (.int .i64 0)))⟩] [0,1,5,25]) (.cond (.t 25) (.seq (.region [⟨some 4,none,.mv (.c (.d true (.int .i64 (-1))))⟩] [4]) (.ret)) (.skip))))) (.region [⟨some 16,none,.mv (.t 5)⟩,⟨some 17,none,.bin .add (.t 16) (.c (.d true (.int .i64 1)))⟩,⟨some 5,none,.mv (.t 17)⟩] [0,1,5])))))) (.seq (.region [⟨some 26,none,.mv (.t 1)⟩,⟨some 4,none,.mv (.t 26)⟩] [4]) (.ret)))))
theorem ok158 : FnOk Tryd.prog Tryd.f158 27 keep158 ac158 [.t 4]:=by
  refine ⟨?_,?_,?_,?_,?_⟩ <;> kernel_rfl

/-! laws.toTermS -/
def keep159 : Nat → List Nat
  | 0 => [0]
  | 1 => [0,3]
  | 2 => [0,3,4]
  | 3 => [0,3,4,11]
  | 4 => [0,3,4]
  | 5 => [0,3,4]
  | 6 => [2]
  | _ => []
def ac159 : AC:=.seq (.region [⟨some 2,none,.own 28 4⟩] [0]) (.seq (.region [⟨some 5,none,.mv (.t 0)⟩,⟨some 6,none,.len (.t 5)⟩,⟨some 7,none,.mks 28 4 56 [.d true (.int .i64 0),.d true (.int .i64 0),.d true (.str ⟨#[]⟩),.nil] (.t 6) (.t 6)⟩,⟨some 3,none,.mv (.t 7)⟩] [0,3]) (.seq (.seq (.region [⟨some 4,none,.mv (.c (.d true (.int .i64 0)))⟩] [0,3,4]) (.block 0 (.loop (.seq (.seq (.region [⟨some 8,none,.mv (.t 4)⟩,⟨some 9,none,.mv (.t 0)⟩,⟨some 10,none,.len (.t 9)⟩,⟨some 11,none,.bin .lss (.t 8) (.t 10)⟩] [0,3,4,11]) (.cond (.t 11) (.skip) (.exit 0))) (.seq (.block 1 (.region [⟨some 14,none,.mv (.t 3)⟩,⟨some 15,none,.mv (.t 4)⟩,⟨some 16,none,.mv (.t 0)⟩,⟨some 17,none,.mv (.t 4)⟩,⟨some 18,none,.ia 4 (.t 16) (.t 17)⟩,⟨some 19,none,.ld (some 4) (.t 18)⟩,⟨some 20,none,.call (.c (.fn 125 [])) [.t 19]⟩,⟨some 21,none,.ia 4 (.t 14) (.t 15)⟩,⟨none,none,.st 4 (.t 21) (.t 20)⟩] [0,3,4])) (.region [⟨some 12,none,.mv (.t 4)⟩,⟨some 13,none,.bin .add (.t 12) (.c (.d true (.int .i64 1)))⟩,⟨some 4,none,.mv (.t 13)⟩] [0,3,4])))))) (.seq (.region [⟨some 22,none,.mv (.t 3)⟩,⟨some 2,none,.mv (.t 22)⟩] [2]) (.ret))))
theorem ok159 : FnOk Tryd.prog Tryd.f159 23 keep159 ac159 [.t 2]:=by
  refine ⟨?_,?_,?_,?_,?_⟩ <;> kernel_rfl

/-! laws.markText -/
def keep160 : Nat → List Nat
  | 0 => [0]
  | 1 => [0,5]
  | 2 => [2]
  | 3 => [0,3]
  | 4 => [0,3,7]
  | 5 => [0,3]
  | 6 => [0,3]
  | 7 => [2]
  | _ => []
def ac160 : AC:=.seq (.region [⟨some 2,none,.mv (.c (.d true (.str ⟨#[]⟩)))⟩] [0]) (.seq (.seq (.region [⟨some 4,none,.mv (.t 0)⟩,⟨some 5,none,.bin .leq (.t 4) (.c (.d true (.int .i64 0)))⟩] [0,5]) (.cond (.t 5) (.seq (.region [⟨some 2,none,.mv (.c (.d true (.str ⟨#[109,48]⟩)))⟩] [2]) (.ret)) (.skip))) (.seq (.region [⟨some 3,none,.mv (.c (.d true (.str ⟨#[]⟩)))⟩] [0,3]) (.seq (.block 0 (.loop (.seq (.seq (.region [⟨some 6,none,.mv (.t 0)⟩,⟨some 7,none,.bin .gtr (.t 6) (.c (.d true (.int .i64 0)))⟩] [0,3,7]) (.cond (.t 7) (.skip) (.exit 0))) (.block 1 (.seq (.region [⟨some 8,none,.mv (.t 0)⟩,⟨some 9,none,.bin .rem (.t 8) (.c (.d true (.int .i64 10)))⟩,⟨some 10,none,.bin .add (.c (.d true (.int .i64 48))) (.t 9)⟩,⟨some 11,none,.cvi .u8 (.t 10)⟩,⟨some 12,none,.bs 5 1 [.t 11]⟩,⟨some 13,none,.bstr (.t 12)⟩,⟨some 14,none,.mv (.t 3)⟩,⟨some 15,none,.bin .add (.t 13) (.t 14)⟩,⟨some 3,none,.mv (.t 15)⟩] [0,3]) (.region [⟨some 16,none,.mv (.t 0)⟩,⟨some 17,none,.bin .quo (.t 16) (.c (.d true (.int .i64 10)))⟩,⟨some 0,none,.mv (.t 17)⟩] [0,3])))))) (.seq (.region [⟨some 18,none,.mv (.t 3)⟩,⟨some 19,none,.bin .add (.c (.d true (.str ⟨#[109]⟩))) (.t 18)⟩,⟨some 2,none,.mv (.t 19)⟩] [2]) (.ret)))))
theorem ok160 : FnOk Tryd.prog Tryd.f160 20 keep160 ac160 [.t 2]:=by
  refine ⟨?_,?_,?_,?_,?_⟩ <;> kernel_rfl

/-! impl.hasTerm$1 -/
/-! impl.madePub -/
/-! impl.made$1 -/
/-! slices.IndexFunc[[]string,string] -/
def keep166 : Nat → List Nat
  | 0 => [0,1]
  | 1 => [0,1,7,8]
  | 2 => [0,1,7,8,9]
  | 3 => [0,1,5,7,8]
  | 4 => [0,1,5,7,8,16]
  | 5 => [4]
  | 6 => [0,1,7,8]
  | 7 => [4]
  | _ => []
def ac166 : AC:=.seq (.region [⟨some 4,none,.mv (.c (.d true (.int .i64 0)))⟩] [0,1]) (.seq (.seq (.region [⟨some 6,none,.mv (.t 0)⟩,⟨some 7,none,.len (.t 6)⟩,⟨some 8,none,.mv (.c (.d true (.int .i64 0)))⟩] [0,1,7,8]) (.block 0 (.loop (.seq (.region [⟨some 9,none,.bin .lss (.t 8) (.t 7)⟩] [0,1,7,8,9]) (.seq (.cond (.t 9) (.skip) (.exit 0)) (.seq (.block 1 (.seq (.region [⟨some 10,none,.mv (.t 8)⟩,⟨some 5,none,.mv (.t 10)⟩] [0,1,5,7,8]) (.seq (.region [⟨some 11,none,.mv (.t 1)⟩,⟨some 12,none,.mv (.t 0)⟩,⟨some 13,none,.mv (.t 5)⟩,⟨some 14,none,.ia 1 (.t 12) (.t 13)⟩,⟨some 15,none,.ld none (.t 14)⟩,⟨some 16,none,.call (.t 11) [.t 15]⟩] [0,1,5,7,8,16]) (.cond (.t 16) (.seq (.region [⟨some 17,none,.mv (.t 5)⟩,⟨some 4,none,.mv (.t 17)⟩] [4]) (.ret)) (.skip))))) (.region [⟨some 18,none,.bin .add (.t 8) (.c (.d true (.int .i64 1)))⟩,⟨some 8,none,.mv (.t 18)⟩] [0,1,7,8]))))))) (.seq (.region [⟨some 4,none,.mv (.c (.d true (.int .i64 (-1))))⟩] [4]) (.ret)))
theorem ok166 : FnOk Tryd.prog Tryd.f166 19 keep166 ac166 [.t 4]:=by
  refine ⟨?_,?_,?_,?_,?_⟩ <;> kernel_rfl

/-! slices.IndexFunc[[]impl.Term,impl.Term] -/
def keep170 : Nat → List Nat
  | 0 => [0,1]
  | 1 => [0,1,7,8]
  | 2 => [0,1,7,8,9]
  | 3 => [0,1,5,7,8]
  | 4 => [0,1,5,7,8,16]
  | 5 => [4]
  | 6 => [0,1,7,8]
  | 7 => [4]
  | _ => []
def ac170 : AC:=.seq (.region [⟨some 4,none,.mv (.c (.d true (.int .i64 0)))⟩] [0,1]) (.seq (.seq (.region [⟨some 6,none,.mv (.t 0)⟩,⟨some 7,none,.len (.t 6)⟩,⟨some 8,none,.mv (.c (.d true (.int .i64 0)))⟩] [0,1,7,8]) (.block 0 (.loop (.seq (.region [⟨some 9,none,.bin .lss (.t 8) (.t 7)⟩] [0,1,7,8,9]) (.seq (.cond (.t 9) (.skip) (.exit 0)) (.seq (.block 1 (.seq (.region [⟨some 10,none,.mv (.t 8)⟩,⟨some 5,none,.mv (.t 10)⟩] [0,1,5,7,8]) (.seq (.region [⟨some 11,none,.mv (.t 1)⟩,⟨some 12,none,.mv (.t 0)⟩,⟨some 13,none,.mv (.t 5)⟩,⟨some 14,none,.ia 4 (.t 12) (.t 13)⟩,⟨some 15,none,.ld (some 4) (.t 14)⟩,⟨some 16,none,.call (.t 11) [.t 15]⟩] [0,1,5,7,8,16]) (.cond (.t 16) (.seq (.region [⟨some 17,none,.mv (.t 5)⟩,⟨some 4,none,.mv (.t 17)⟩] [4]) (.ret)) (.skip))))) (.region [⟨some 18,none,.bin .add (.t 8) (.c (.d true (.int .i64 1)))⟩,⟨some 8,none,.mv (.t 18)⟩] [0,1,7,8]))))))) (.seq (.region [⟨some 4,none,.mv (.c (.d true (.int .i64 (-1))))⟩] [4]) (.ret)))
theorem ok170 : FnOk Tryd.prog Tryd.f170 19 keep170 ac170 [.t 4]:=by
  refine ⟨?_,?_,?_,?_,?_⟩ <;> kernel_rfl

end Go.Proofs.YtlddcimpdkcgeaaDoor
