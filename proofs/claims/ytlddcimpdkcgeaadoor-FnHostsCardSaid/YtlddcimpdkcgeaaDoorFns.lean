/- Functions, as code over abstract states. -/
import Derived.Test.YtlddcimpdkcgeaaDoorFnsA
set_option linter.unusedVariables false
set_option linter.unusedSimpArgs false
set_option maxRecDepth 100000
namespace Go.Proofs.YtlddcimpdkcgeaaDoor
open Go.RowKit Sym

/-! laws.toCert -/
/-! impl.CertTerm -/
/-! laws.eqTerm -/
/-! laws.eqCert -/
/-! laws.markCert -/
/-! laws.markTerm -/
/-! laws.heldTerm -/
/-! spec.l2Draw -/
/-! spec.l1New -/
def keep76 : Nat → List Nat
  | 0 => [0]
  | 1 => [0,3]
  | 2 => [0,3,4]
  | 3 => [0,3,4,15]
  | 4 => [0,3,4]
  | 5 => [0,3,4]
  | 6 => [2]
  | _ => []
def ac76 : AC:=.seq (.region [⟨some 2,none,.mv (.c (.any))⟩] [0]) (.seq (.region [⟨some 5,none,.mv (.t 0)⟩,⟨some 6,none,.len (.t 5)⟩,⟨some 7,none,.bin .add (.c (.d true (.int .i64 22143))) (.t 6)⟩,⟨some 3,none,.mv (.t 7)⟩] [0,3]) (.seq (.seq (.region [⟨some 4,none,.mv (.c (.d true (.int .i64 0)))⟩] [0,3,4]) (.block 0 (.loop (.seq (.seq (.region [⟨some 8,none,.mv (.t 4)⟩,⟨some 9,none,.mv (.t 0)⟩,⟨some 10,none,.len (.t 9)⟩,⟨some 11,none,.bin .lss (.t 8) (.t 10)⟩,⟨some 12,none,.mv (.t 11)⟩,⟨some 13,some (12,true),.mv (.t 4)⟩,⟨some 14,some (12,true),.bin .lss (.t 13) (.c (.d true (.int .i64 4000)))⟩,⟨some 15,none,.pick (.t 12) (.t 14) (.c (.d true (.bool false)))⟩] [0,3,4,15]) (.cond (.t 15) (.skip) (.exit 0))) (.seq (.block 1 (.region [⟨some 18,none,.mv (.t 3)⟩,⟨some 19,none,.bin .mul (.t 18) (.c (.d true (.int .i64 131)))⟩,⟨some 20,none,.mv (.t 0)⟩,⟨some 21,none,.mv (.t 4)⟩,⟨some 22,none,.ia 1 (.t 20) (.t 21)⟩,⟨some 23,none,.ld none (.t 22)⟩,⟨some 24,none,.cvi .i64 (.t 23)⟩,⟨some 25,none,.bin .add (.t 19) (.t 24)⟩,⟨some 26,none,.bin .add (.t 25) (.c (.d true (.int .i64 7)))⟩,⟨some 27,none,.bin .and (.t 26) (.c (.d true (.int .i64 1073741823)))⟩,⟨some 3,none,.mv (.t 27)⟩] [0,3,4])) (.region [⟨some 16,none,.mv (.t 4)⟩,⟨some 17,none,.bin .add (.t 16) (.c (.d true (.int .i64 1)))⟩,⟨some 4,none,.mv (.t 17)⟩] [0,3,4])))))) (.seq (.region [⟨some 28,none,.mv (.t 0)⟩,⟨some 29,none,.mv (.t 3)⟩,⟨some 30,none,.bld [.nil,.d true (.int .i64 0),.d true (.int .i64 0)] [(0,1,.t 28),(2,1,.t 29)]⟩,⟨some 31,none,.box (.t 30)⟩,⟨some 2,none,.mv (.t 31)⟩] [2]) (.ret))))
theorem ok76 : FnOk Tryd.prog Tryd.f76 32 keep76 ac76 [.t 2]:=by
  refine ⟨?_,?_,?_,?_,?_⟩ <;> kernel_rfl

/-! impl.right -/
/-! (*impl.knower).add -/
/-! (*impl.knower).apart -/
/-! spec.l2Add -/
/-! spec.l2Made -/
/-! impl.Pair -/
/-! impl.digits -/
/-! impl.Hash -/
/-! impl.Made -/
/-! spec.l5DrawText -/
def keep86 : Nat → List Nat
  | 0 => [0,1000000,1000001]
  | 1 => [2,1000000,1000001]
  | _ => []
def ac86 : AC:=.seq (.region [⟨some 2,none,.mv (.c (.d true (.str ⟨#[]⟩)))⟩] [0,1000000,1000001]) (.seq (.region [⟨some 3,none,.mv (.t 0)⟩,⟨some 4,none,.bs 9 1 [.c (.d true (.str ⟨#[109,120,46,97]⟩)),.c (.d true (.str ⟨#[42,46,97]⟩)),.c (.d true (.str ⟨#[42,46,98]⟩)),.c (.d true (.str ⟨#[97]⟩)),.c (.d true (.str ⟨#[42,46,42,46,97]⟩)),.c (.d true (.str ⟨#[]⟩)),.c (.d true (.str ⟨#[46]⟩)),.c (.d true (.str ⟨#[97,46]⟩)),.c (.d true (.str ⟨#[45,97,46,98]⟩)),.c (.d true (.str ⟨#[97,45,98,46,99]⟩)),.c (.d true (.str ⟨#[65,46,98]⟩)),.c (.d true (.str ⟨#[109,120,46,98]⟩)),.c (.d true (.str ⟨#[97,98,99,100,101,102,103,104,105,106,107,46,108]⟩)),.c (.d true (.str ⟨#[42,46]⟩))]⟩,⟨some 5,none,.call (.c (.fn 134 [])) [.t 3,.t 4]⟩,⟨some 2,none,.mv (.t 5)⟩] [2,1000000,1000001]) (.ret))
theorem ok86 : FnOk Tryd.prog Tryd.f86 6 keep86 ac86 [.t 2]:=by
  refine ⟨?_,?_,?_,?_,?_⟩ <;> kernel_rfl

/-! spec.l1Once -/
def keep87 : Nat → List Nat
  | 0 => [0,1,1000000,1000001]
  | 1 => [4,1000000,1000001]
  | _ => []
def ac87 : AC:=.seq (.region [⟨some 4,none,.mv (.c (.d true (.bool false)))⟩] [0,1,1000000,1000001]) (.seq (.region [⟨some 5,none,.mv (.t 0)⟩,⟨some 6,none,.mv (.t 1)⟩,⟨some 7,none,.call (.c (.fn 98 [])) [.t 5,.t 6]⟩,⟨some 8,none,.bin .eql (.t 7) (.c (.d true (.int .i64 0)))⟩,⟨some 4,none,.mv (.t 8)⟩] [4,1000000,1000001]) (.ret))
theorem ok87 : FnOk Tryd.prog Tryd.f87 9 keep87 ac87 [.t 4]:=by
  refine ⟨?_,?_,?_,?_,?_⟩ <;> kernel_rfl

/-! spec.l5DrawHost -/
def keep88 : Nat → List Nat
  | 0 => [0,1000000,1000001]
  | 1 => [2,1000000,1000001]
  | _ => []
def ac88 : AC:=.seq (.region [⟨some 2,none,.mv (.c (.d true (.str ⟨#[]⟩)))⟩] [0,1000000,1000001]) (.seq (.region [⟨some 3,none,.mv (.t 0)⟩,⟨some 4,none,.bs 9 1 [.c (.d true (.str ⟨#[109,120,46,97]⟩)),.c (.d true (.str ⟨#[109,50,46,97]⟩)),.c (.d true (.str ⟨#[109,120,46,98]⟩)),.c (.d true (.str ⟨#[120,46,109,120,46,97]⟩)),.c (.d true (.str ⟨#[101,118,105,108,46,101]⟩)),.c (.d true (.str ⟨#[97,46,98]⟩))]⟩,⟨some 5,none,.call (.c (.fn 134 [])) [.t 3,.t 4]⟩,⟨some 2,none,.mv (.t 5)⟩] [2,1000000,1000001]) (.ret))
theorem ok88 : FnOk Tryd.prog Tryd.f88 6 keep88 ac88 [.t 2]:=by
  refine ⟨?_,?_,?_,?_,?_⟩ <;> kernel_rfl

/-! spec.l5Star -/
def keep91 : Nat → List Nat
  | 0 => [0]
  | 1 => [2]
  | _ => []
def ac91 : AC:=.seq (.region [⟨some 2,none,.mv (.c (.d true (.bool false)))⟩] [0]) (.seq (.region [⟨some 3,none,.mv (.t 0)⟩,⟨some 4,none,.slen (.t 3)⟩,⟨some 5,none,.bin .gtr (.t 4) (.c (.d true (.int .i64 2)))⟩,⟨some 6,none,.mv (.t 5)⟩,⟨some 7,some (6,true),.mv (.t 0)⟩,⟨some 8,some (6,true),.sls (.t 7) none (some (.c (.d true (.int .i64 2))))⟩,⟨some 9,some (6,true),.bin .eql (.t 8) (.c (.d true (.str ⟨#[42,46]⟩)))⟩,⟨some 10,none,.pick (.t 6) (.t 9) (.c (.d true (.bool false)))⟩,⟨some 2,none,.mv (.t 10)⟩] [2]) (.ret))
theorem ok91 : FnOk Tryd.prog Tryd.f91 11 keep91 ac91 [.t 2]:=by
  refine ⟨?_,?_,?_,?_,?_⟩ <;> kernel_rfl

/-! impl.labelsOk -/
def keep92 : Nat → List Nat
  | 0 => [0,1]
  | 1 => [0,1,5]
  | 2 => [4]
  | _ => []
def ac92 : AC:=.seq (.region [⟨some 4,none,.mv (.c (.d true (.bool false)))⟩] [0,1]) (.seq (.region [⟨some 6,none,.mv (.t 0)⟩,⟨some 7,none,.call (.c (.fn 31 [])) [.t 6]⟩,⟨some 5,none,.mv (.t 7)⟩] [0,1,5]) (.seq (.region [⟨some 8,none,.mv (.t 0)⟩,⟨some 9,none,.slen (.t 8)⟩,⟨some 10,none,.bin .leq (.t 9) (.c (.d true (.int .i64 60)))⟩,⟨some 11,none,.mv (.t 10)⟩,⟨some 12,some (11,true),.mv (.t 5)⟩,⟨some 13,some (11,true),.len (.t 12)⟩,⟨some 14,some (11,true),.mv (.t 1)⟩,⟨some 15,some (11,true),.bin .geq (.t 13) (.t 14)⟩,⟨some 16,none,.pick (.t 11) (.t 15) (.c (.d true (.bool false)))⟩,⟨some 17,none,.mv (.t 16)⟩,⟨some 18,some (17,true),.mv (.t 5)⟩,⟨some 19,some (17,true),.call (.c (.fn 137 [])) [.t 18,.c (.fn 138 [])]⟩,⟨some 20,some (17,true),.not (.t 19)⟩,⟨some 21,none,.pick (.t 17) (.t 20) (.c (.d true (.bool false)))⟩,⟨some 4,none,.mv (.t 21)⟩] [4]) (.ret)))
theorem ok92 : FnOk Tryd.prog Tryd.f92 22 keep92 ac92 [.t 4]:=by
  refine ⟨?_,?_,?_,?_,?_⟩ <;> kernel_rfl

/-! spec.l5Labels -/
def keep93 : Nat → List Nat
  | 0 => [0,1]
  | 1 => [0,1,5]
  | 2 => [0,1,5,6]
  | 3 => [0,1,5,6,12]
  | 4 => [0,1,5,6]
  | 5 => [0,1,5,6,20]
  | 6 => [4]
  | 7 => [4]
  | _ => []
def ac93 : AC:=.seq (.region [⟨some 4,none,.mv (.c (.d true (.bool false)))⟩] [0,1]) (.seq (.region [⟨some 7,none,.mv (.t 0)⟩,⟨some 8,none,.call (.c (.fn 32 [])) [.t 7]⟩,⟨some 5,none,.mv (.t 8)⟩] [0,1,5]) (.seq (.seq (.region [⟨some 6,none,.mv (.c (.d true (.int .i64 0)))⟩] [0,1,5,6]) (.block 0 (.loop (.seq (.seq (.region [⟨some 9,none,.mv (.t 6)⟩,⟨some 10,none,.mv (.t 5)⟩,⟨some 11,none,.len (.t 10)⟩,⟨some 12,none,.bin .lss (.t 9) (.t 11)⟩] [0,1,5,6,12]) (.cond (.t 12) (.skip) (.exit 0))) (.seq (.block 1 (.seq (.region [⟨some 15,none,.mv (.t 5)⟩,⟨some 16,none,.mv (.t 6)⟩,⟨some 17,none,.ia 1 (.t 15) (.t 16)⟩,⟨some 18,none,.ld none (.t 17)⟩,⟨some 19,none,.call (.c (.fn 140 [])) [.t 18]⟩,⟨some 20,none,.not (.t 19)⟩] [0,1,5,6,20]) (.cond (.t 20) (.seq (.region [⟨some 4,none,.mv (.c (.d true (.bool false)))⟩] [4]) (.ret)) (.skip)))) (.region [⟨some 13,none,.mv (.t 6)⟩,⟨some 14,none,.bin .add (.t 13) (.c (.d true (.int .i64 1)))⟩,⟨some 6,none,.mv (.t 14)⟩] [0,1,5,6])))))) (.seq (.region [⟨some 21,none,.mv (.t 5)⟩,⟨some 22,none,.len (.t 21)⟩,⟨some 23,none,.mv (.t 1)⟩,⟨some 24,none,.bin .geq (.t 22) (.t 23)⟩,⟨some 25,none,.mv (.t 24)⟩,⟨some 26,some (25,true),.mv (.t 0)⟩,⟨some 27,some (25,true),.slen (.t 26)⟩,⟨some 28,some (25,true),.bin .leq (.t 27) (.c (.d true (.int .i64 60)))⟩,⟨some 29,none,.pick (.t 25) (.t 28) (.c (.d true (.bool false)))⟩,⟨some 4,none,.mv (.t 29)⟩] [4]) (.ret))))
theorem ok93 : FnOk Tryd.prog Tryd.f93 30 keep93 ac93 [.t 4]:=by
  refine ⟨?_,?_,?_,?_,?_⟩ <;> kernel_rfl

/-! spec.l1Draw -/
/-! spec.l1PickInt -/
/-! spec.l1DrawRight -/
/-! spec.l1Below -/
def keep98 : Nat → List Nat
  | 0 => [0,1,1000000,1000001]
  | 1 => [0,1,10,1000000,1000001]
  | 2 => [4,1000000,1000001]
  | 3 => [0,1,12,1000000,1000001]
  | 4 => [4,1000000,1000001]
  | 5 => [0,1,5,1000000,1000001]
  | 6 => [0,1,5,6,1000000,1000001]
  | 7 => [0,1,5,6,7,1000000,1000001]
  | 8 => [1,5,6,7,8,1000000,1000001]
  | 9 => [4,1000000,1000001]
  | _ => []
def ac98 : AC:=.seq (.region [⟨some 4,none,.mv (.c (.d true (.int .i64 0)))⟩] [0,1,1000000,1000001]) (.seq (.seq (.region [⟨some 9,none,.mv (.t 1)⟩,⟨some 10,none,.bin .leq (.t 9) (.c (.d true (.int .i64 0)))⟩] [0,1,10,1000000,1000001]) (.cond (.t 10) (.seq (.region [⟨some 4,none,.mv (.c (.d true (.int .i64 0)))⟩] [4,1000000,1000001]) (.ret)) (.skip))) (.seq (.seq (.region [⟨some 11,none,.mv (.t 1)⟩,⟨some 12,none,.bin .leq (.t 11) (.c (.d true (.int .i64 256)))⟩] [0,1,12,1000000,1000001]) (.cond (.t 12) (.seq (.region [⟨some 13,none,.mv (.t 0)⟩,⟨some 14,none,.call (.c (.fn 143 [])) [.t 13]⟩,⟨some 15,none,.mv (.t 1)⟩,⟨some 16,none,.bin .rem (.t 14) (.t 15)⟩,⟨some 4,none,.mv (.t 16)⟩] [4,1000000,1000001]) (.ret)) (.skip))) (.seq (.region [⟨some 17,none,.mv (.t 0)⟩,⟨some 18,none,.call (.c (.fn 143 [])) [.t 17]⟩,⟨some 5,none,.mv (.t 18)⟩] [0,1,5,1000000,1000001]) (.seq (.region [⟨some 19,none,.mv (.t 0)⟩,⟨some 20,none,.call (.c (.fn 143 [])) [.t 19]⟩,⟨some 6,none,.mv (.t 20)⟩] [0,1,5,6,1000000,1000001]) (.seq (.region [⟨some 21,none,.mv (.t 0)⟩,⟨some 22,none,.call (.c (.fn 143 [])) [.t 21]⟩,⟨some 7,none,.mv (.t 22)⟩] [0,1,5,6,7,1000000,1000001]) (.seq (.region [⟨some 23,none,.mv (.t 0)⟩,⟨some 24,none,.call (.c (.fn 143 [])) [.t 23]⟩,⟨some 8,none,.mv (.t 24)⟩] [1,5,6,7,8,1000000,1000001]) (.seq (.region [⟨some 25,none,.mv (.t 5)⟩,⟨some 26,none,.bin .mul (.t 25) (.c (.d true (.int .i64 16777216)))⟩,⟨some 27,none,.mv (.t 6)⟩,⟨some 28,none,.bin .mul (.t 27) (.c (.d true (.int .i64 65536)))⟩,⟨some 29,none,.bin .add (.t 26) (.t 28)⟩,⟨some 30,none,.mv (.t 7)⟩,⟨some 31,none,.bin .mul (.t 30) (.c (.d true (.int .i64 256)))⟩,⟨some 32,none,.bin .add (.t 29) (.t 31)⟩,⟨some 33,none,.mv (.t 8)⟩,⟨some 34,none,.bin .add (.t 32) (.t 33)⟩,⟨some 35,none,.mv (.t 1)⟩,⟨some 36,none,.bin .rem (.t 34) (.t 35)⟩,⟨some 4,none,.mv (.t 36)⟩] [4,1000000,1000001]) (.ret))))))))
theorem ok98 : FnOk Tryd.prog Tryd.f98 37 keep98 ac98 [.t 4]:=by
  refine ⟨?_,?_,?_,?_,?_⟩ <;> kernel_rfl

/-! impl.clone -/
/-! spec.l3Num -/
/-! spec.l1Copy -/
/-! spec.Pub -/
/-! spec.l2Pub -/
/-! spec.l1DrawTwo -/
/-! slices.EqualFunc[[]impl.Term,[]impl.Term,impl.Term,impl.Term] -/
/-! spec.l3Two -/
/-! spec.Pair -/
/-! spec.Hash -/
/-! impl.formOk -/
/-! spec.l1Right -/
/-! spec.l1Digits -/
/-! spec.l1In -/
def keep114 : Nat → List Nat
  | 0 => [0,1,2]
  | 1 => [6]
  | _ => []
def ac114 : AC:=.seq (.region [⟨some 6,none,.mv (.c (.d true (.bool false)))⟩] [0,1,2]) (.seq (.region [⟨some 7,none,.mv (.t 0)⟩,⟨some 8,none,.mv (.t 1)⟩,⟨some 9,none,.bin .geq (.t 7) (.t 8)⟩,⟨some 10,none,.mv (.t 9)⟩,⟨some 11,some (10,true),.mv (.t 0)⟩,⟨some 12,some (10,true),.mv (.t 2)⟩,⟨some 13,some (10,true),.bin .leq (.t 11) (.t 12)⟩,⟨some 14,none,.pick (.t 10) (.t 13) (.c (.d true (.bool false)))⟩,⟨some 6,none,.mv (.t 14)⟩] [6]) (.ret))
theorem ok114 : FnOk Tryd.prog Tryd.f114 15 keep114 ac114 [.t 6]:=by
  refine ⟨?_,?_,?_,?_,?_⟩ <;> kernel_rfl

/-! laws.szStringS -/
/-! spec.PolicyOk -/
/-! laws.toStringS -/
/-! impl.PolicyOk -/
/-! impl.isTime -/
/-! impl.modes -/
/-! laws.eqStringS -/
/-! laws.szTerm -/
/-! spec.CertOk -/
/-! spec.Atom -/
/-! laws.toTerm -/
/-! impl.CertOk -/
/-! impl.text -/
/-! laws.eqTermS -/
/-! laws.markTermS -/
/-! laws.heldTermS -/
/-! impl.hasTerm -/
/-! spec.l2Has -/
/-! impl.made -/
/-! spec.l1Pick -/
def keep134 : Nat → List Nat
  | 0 => [0,1,1000000,1000001]
  | 1 => [4,1000000,1000001]
  | _ => []
def ac134 : AC:=.seq (.region [⟨some 4,none,.mv (.c (.d true (.str ⟨#[]⟩)))⟩] [0,1,1000000,1000001]) (.seq (.region [⟨some 5,none,.mv (.t 1)⟩,⟨some 6,none,.mv (.t 0)⟩,⟨some 7,none,.mv (.t 1)⟩,⟨some 8,none,.len (.t 7)⟩,⟨some 9,none,.call (.c (.fn 98 [])) [.t 6,.t 8]⟩,⟨some 10,none,.ia 1 (.t 5) (.t 9)⟩,⟨some 11,none,.ld none (.t 10)⟩,⟨some 4,none,.mv (.t 11)⟩] [4,1000000,1000001]) (.ret))
theorem ok134 : FnOk Tryd.prog Tryd.f134 12 keep134 ac134 [.t 4]:=by
  refine ⟨?_,?_,?_,?_,?_⟩ <;> kernel_rfl

/-! slices.ContainsFunc[[]string,string] -/
def keep137 : Nat → List Nat
  | 0 => [0,1]
  | 1 => [4]
  | _ => []
def ac137 : AC:=.seq (.region [⟨some 4,none,.mv (.c (.d true (.bool false)))⟩] [0,1]) (.seq (.region [⟨some 5,none,.mv (.t 0)⟩,⟨some 6,none,.mv (.t 1)⟩,⟨some 7,none,.call (.c (.fn 166 [])) [.t 5,.t 6]⟩,⟨some 8,none,.bin .geq (.t 7) (.c (.d true (.int .i64 0)))⟩,⟨some 4,none,.mv (.t 8)⟩] [4]) (.ret))
theorem ok137 : FnOk Tryd.prog Tryd.f137 9 keep137 ac137 [.t 4]:=by
  refine ⟨?_,?_,?_,?_,?_⟩ <;> kernel_rfl

/-! impl.labelsOk$1 -/
def keep138 : Nat → List Nat
  | 0 => [0]
  | 1 => [2]
  | _ => []
def ac138 : AC:=.seq (.region [⟨some 2,none,.mv (.c (.d true (.bool false)))⟩] [0]) (.seq (.region [⟨some 3,none,.mv (.t 0)⟩,⟨some 4,none,.call (.c (.fn 139 [])) [.t 3]⟩,⟨some 5,none,.not (.t 4)⟩,⟨some 2,none,.mv (.t 5)⟩] [2]) (.ret))
theorem ok138 : FnOk Tryd.prog Tryd.f138 6 keep138 ac138 [.t 2]:=by
  refine ⟨?_,?_,?_,?_,?_⟩ <;> kernel_rfl

/-! impl.labelOk -/
def keep139 : Nat → List Nat
  | 0 => [0]
  | 1 => [0,6,7]
  | 2 => [0,6,7,8]
  | 3 => [0,3,6,7]
  | 4 => [0,3,4,6,7]
  | 5 => [0,6,7,41]
  | 6 => [2]
  | 7 => [0,6,7]
  | 8 => [2]
  | _ => []
def ac139 : AC:=.seq (.region [⟨some 2,none,.mv (.c (.d true (.bool false)))⟩] [0]) (.seq (.seq (.region [⟨some 5,none,.mv (.t 0)⟩,⟨some 6,none,.slen (.t 5)⟩,⟨some 7,none,.mv (.c (.d true (.int .i64 0)))⟩] [0,6,7]) (.block 0 (.loop (.seq (.region [⟨some 8,none,.bin .lss (.t 7) (.t 6)⟩] [0,6,7,8]) (.seq (.cond (.t 8) (.skip) (.exit 0)) (.seq (.block 1 (.seq (.region [⟨some 9,none,.mv (.t 7)⟩,⟨some 3,none,.mv (.t 9)⟩] [0,3,6,7]) (.seq (.region [⟨some 10,none,.mv (.t 0)⟩,⟨some 11,none,.mv (.t 3)⟩,⟨some 12,none,.ix (.t 10) (.t 11)⟩,⟨some 4,none,.mv (.t 12)⟩] [0,3,4,6,7]) (.seq (.region [⟨some 13,none,.mv (.t 4)⟩,⟨some 14,none,.bin .lss (.t 13) (.c (.d true (.int .u8 97)))⟩,⟨some 15,none,.mv (.t 14)⟩,⟨some 16,some (15,false),.mv (.t 4)⟩,⟨some 17,some (15,false),.bin .gtr (.t 16) (.c (.d true (.int .u8 122)))⟩,⟨some 18,none,.pick (.t 15) (.c (.d true (.bool true))) (.t 17)⟩,⟨some 19,none,.mv (.t 18)⟩,⟨some 20,some (19,true),.mv (.t 4)⟩,⟨some 21,some (19,true),.bin .lss (.t 20) (.c (.d true (.int .u8 48)))⟩,⟨some 22,some (19,true),.mv (.t 21)⟩,⟨some 23,some (22,false),.mv (.t 4)⟩,⟨some 24,some (22,false),.bin .gtr (.t 23) (.c (.d true (.int .u8 57)))⟩,⟨some 25,some (19,true),.pick (.t 22) (.c (.d true (.bool true))) (.t 24)⟩,⟨some 26,none,.pick (.t 19) (.t 25) (.c (.d true (.bool false)))⟩,⟨some 27,none,.mv (.t 26)⟩,⟨some 28,some (27,true),.mv (.t 4)⟩,⟨some 29,some (27,true),.bin .neq (.t 28) (.c (.d true (.int .u8 45)))⟩,⟨some 30,some (27,true),.mv (.t 29)⟩,⟨some 31,some (30,false),.mv (.t 3)⟩,⟨some 32,some (30,false),.bin .eql (.t 31) (.c (.d true (.int .i64 0)))⟩,⟨some 33,some (27,true),.pick (.t 30) (.c (.d true (.bool true))) (.t 32)⟩,⟨some 34,some (27,true),.mv (.t 33)⟩,⟨some 35,some (34,false),.mv (.t 3)⟩,⟨some 36,some (34,false),.mv (.t 0)⟩,⟨some 37,some (34,false),.slen (.t 36)⟩,⟨some 38,some (34,false),.bin .sub (.t 37) (.c (.d true (.int .i64 1)))⟩,⟨some 39,some (34,false),.bin .eql (.t 35) (.t 38)⟩,⟨some 40,some (27,true),.pick (.t 34) (.c (.d true (.bool true))) (.t 39)⟩,⟨some 41,none,.pick (.t 27) (.t 40) (.c (.d true (.bool false)))⟩] [0,6,7,41]) (.cond (.t 41) (.seq (.region [⟨some 2,none,.mv (.c (.d true (.bool false)))⟩] [2]) (.ret)) (.skip)))))) (.region [⟨some 42,none,.bin .add (.t 7) (.c (.d true (.int .i64 1)))⟩,⟨some 7,none,.mv (.t 42)⟩] [0,6,7]))))))) (.seq (.region [⟨some 43,none,.mv (.t 0)⟩,⟨some 44,none,.slen (.t 43)⟩,⟨some 45,none,.call (.c (.fn 149 [])) [.t 44,.c (.d true (.int .i64 1)),.c (.d true (.int .i64 10))]⟩,⟨some 2,none,.mv (.t 45)⟩] [2]) (.ret)))
theorem ok139 : FnOk Tryd.prog Tryd.f139 46 keep139 ac139 [.t 2]:=by
  refine ⟨?_,?_,?_,?_,?_⟩ <;> kernel_rfl

/-! spec.l5Label -/
def keep140 : Nat → List Nat
  | 0 => [0]
  | 1 => [0,3]
  | 2 => [0,3,8]
  | 3 => [0,3]
  | 4 => [0,3,4]
  | 5 => [0,3,43]
  | 6 => [2]
  | 7 => [2]
  | _ => []
def ac140 : AC:=.seq (.region [⟨some 2,none,.mv (.c (.d true (.bool false)))⟩] [0]) (.seq (.seq (.region [⟨some 3,none,.mv (.c (.d true (.int .i64 0)))⟩] [0,3]) (.block 0 (.loop (.seq (.seq (.region [⟨some 5,none,.mv (.t 3)⟩,⟨some 6,none,.mv (.t 0)⟩,⟨some 7,none,.slen (.t 6)⟩,⟨some 8,none,.bin .lss (.t 5) (.t 7)⟩] [0,3,8]) (.cond (.t 8) (.skip) (.exit 0))) (.seq (.block 1 (.seq (.region [⟨some 11,none,.mv (.t 0)⟩,⟨some 12,none,.mv (.t 3)⟩,⟨some 13,none,.ix (.t 11) (.t 12)⟩,⟨some 4,none,.mv (.t 13)⟩] [0,3,4]) (.seq (.region [⟨some 14,none,.mv (.t 4)⟩,⟨some 15,none,.bin .geq (.t 14) (.c (.d true (.int .u8 97)))⟩,⟨some 16,none,.mv (.t 15)⟩,⟨some 17,some (16,true),.mv (.t 4)⟩,⟨some 18,some (16,true),.bin .leq (.t 17) (.c (.d true (.int .u8 122)))⟩,⟨some 19,none,.pick (.t 16) (.t 18) (.c (.d true (.bool false)))⟩,⟨some 20,none,.mv (.t 19)⟩,⟨some 21,some (20,false),.mv (.t 4)⟩,⟨some 22,some (20,false),.bin .geq (.t 21) (.c (.d true (.int .u8 48)))⟩,⟨some 23,some (20,false),.mv (.t 22)⟩,⟨some 24,some (23,true),.mv (.t 4)⟩,⟨some 25,some (23,true),.bin .leq (.t 24) (.c (.d true (.int .u8 57)))⟩,⟨some 26,some (20,false),.pick (.t 23) (.t 25) (.c (.d true (.bool false)))⟩,⟨some 27,none,.pick (.t 20) (.c (.d true (.bool true))) (.t 26)⟩,⟨some 28,none,.mv (.t 27)⟩,⟨some 29,some (28,false),.mv (.t 4)⟩,⟨some 30,some (28,false),.bin .eql (.t 29) (.c (.d true (.int .u8 45)))⟩,⟨some 31,some (28,false),.mv (.t 30)⟩,⟨some 32,some (31,true),.mv (.t 3)⟩,⟨some 33,some (31,true),.bin .gtr (.t 32) (.c (.d true (.int .i64 0)))⟩,⟨some 34,some (28,false),.pick (.t 31) (.t 33) (.c (.d true (.bool false)))⟩,⟨some 35,some (28,false),.mv (.t 34)⟩,⟨some 36,some (35,true),.mv (.t 3)⟩,⟨some 37,some (35,true),.mv (.t 0)⟩,⟨some 38,some (35,true),.slen (.t 37)⟩,⟨some 39,some (35,true),.bin .sub (.t 38) (.c (.d true (.int .i64 1)))⟩,⟨some 40,some (35,true),.bin .lss (.t 36) (.t 39)⟩,⟨some 41,some (28,false),.pick (.t 35) (.t 40) (.c (.d true (.bool false)))⟩,⟨some 42,none,.pick (.t 28) (.c (.d true (.bool true))) (.t 41)⟩,⟨some 43,none,.not (.t 42)⟩] [0,3,43]) (.cond (.t 43) (.seq (.region [⟨some 2,none,.mv (.c (.d true (.bool false)))⟩] [2]) (.ret)) (.skip))))) (.region [⟨some 9,none,.mv (.t 3)⟩,⟨some 10,none,.bin .add (.t 9) (.c (.d true (.int .i64 1)))⟩,⟨some 3,none,.mv (.t 10)⟩] [0,3])))))) (.seq (.region [⟨some 44,none,.mv (.t 0)⟩,⟨some 45,none,.slen (.t 44)⟩,⟨some 46,none,.call (.c (.fn 114 [])) [.t 45,.c (.d true (.int .i64 1)),.c (.d true (.int .i64 10))]⟩,⟨some 2,none,.mv (.t 46)⟩] [2]) (.ret)))
theorem ok140 : FnOk Tryd.prog Tryd.f140 47 keep140 ac140 [.t 2]:=by
  refine ⟨?_,?_,?_,?_,?_⟩ <;> kernel_rfl

/-! spec.Agree -/
/-! spec.l1Byte -/
def keep143 : Nat → List Nat
  | 0 => [0,1000000,1000001]
  | 1 => [0,1000000,1000001]
  | 2 => [0,3,1000000,1000001]
  | 3 => [0,3,34,1000000,1000001]
  | 4 => [0,3,1000000,1000001]
  | 5 => [3,1000000,1000001]
  | 6 => [2,1000000,1000001]
  | _ => []
def ac143 : AC:=.seq (.region [⟨some 2,none,.mv (.c (.d true (.int .i64 0)))⟩] [0,1000000,1000001]) (.seq (.region [⟨some 4,none,.mv (.t 0)⟩,⟨some 5,none,.mv (.t 0)⟩,⟨some 6,none,.ck (.t 5)⟩,⟨some 7,none,.fa 2 (.t 6)⟩,⟨some 8,none,.ld none (.t 7)⟩,⟨some 9,none,.bin .mul (.t 8) (.c (.d true (.int .i64 6364136223846793005)))⟩,⟨some 10,none,.bin .add (.t 9) (.c (.d true (.int .i64 1442695040888963407)))⟩,⟨some 11,none,.ck (.t 4)⟩,⟨some 12,none,.fa 2 (.t 11)⟩,⟨none,none,.st 1 (.t 12) (.t 10)⟩] [0,1000000,1000001]) (.seq (.draw [⟨some 13,none,.mv (.t 0)⟩,⟨some 14,none,.ck (.t 13)⟩,⟨some 15,none,.fa 2 (.t 14)⟩,⟨some 16,none,.ld none (.t 15)⟩,⟨some 17,none,.bin .shr (.t 16) (.c (.d true (.int .u64 33)))⟩,⟨some 18,none,.mv (.t 0)⟩,⟨some 19,none,.ck (.t 18)⟩,⟨some 20,none,.fa 2 (.t 19)⟩,⟨some 21,none,.ld none (.t 20)⟩,⟨some 22,none,.bin .shr (.t 21) (.c (.d true (.int .u64 45)))⟩,⟨some 23,none,.bin .xor (.t 17) (.t 22)⟩,⟨some 24,none,.bin .and (.t 23) (.c (.d true (.int .i64 255)))⟩,⟨some 3,none,.mv (.t 24)⟩] [0,3,1000000,1000001]) (.seq (.seq (.draw [⟨some 25,none,.mv (.t 0)⟩,⟨some 26,none,.ck (.t 25)⟩,⟨some 27,none,.fa 1 (.t 26)⟩,⟨some 28,none,.ld none (.t 27)⟩,⟨some 29,none,.mv (.t 0)⟩,⟨some 30,none,.ck (.t 29)⟩,⟨some 31,none,.fa 0 (.t 30)⟩,⟨some 32,none,.ld none (.t 31)⟩,⟨some 33,none,.len (.t 32)⟩,⟨some 34,none,.bin .lss (.t 28) (.t 33)⟩] [0,3,34,1000000,1000001]) (.cond (.t 34) (.seq (.draw [⟨some 35,none,.mv (.t 3)⟩,⟨some 36,none,.mv (.t 0)⟩,⟨some 37,none,.ck (.t 36)⟩,⟨some 38,none,.fa 0 (.t 37)⟩,⟨some 39,none,.ld none (.t 38)⟩,⟨some 40,none,.mv (.t 0)⟩,⟨some 41,none,.ck (.t 40)⟩,⟨some 42,none,.fa 1 (.t 41)⟩,⟨some 43,none,.ld none (.t 42)⟩,⟨some 44,none,.ia 1 (.t 39) (.t 43)⟩,⟨some 45,none,.ld none (.t 44)⟩,⟨some 46,none,.cvi .i64 (.t 45)⟩,⟨some 47,none,.bin .add (.t 35) (.t 46)⟩,⟨some 48,none,.bin .and (.t 47) (.c (.d true (.int .i64 255)))⟩,⟨some 3,none,.mv (.t 48)⟩] [0,3,1000000,1000001]) (.region [⟨some 49,none,.mv (.t 0)⟩,⟨some 50,none,.mv (.t 0)⟩,⟨some 51,none,.ck (.t 50)⟩,⟨some 52,none,.fa 1 (.t 51)⟩,⟨some 53,none,.ld none (.t 52)⟩,⟨some 54,none,.bin .add (.t 53) (.c (.d true (.int .i64 1)))⟩,⟨some 55,none,.ck (.t 49)⟩,⟨some 56,none,.fa 1 (.t 55)⟩,⟨none,none,.st 1 (.t 56) (.t 54)⟩] [3,1000000,1000001])) (.skip))) (.seq (.region [⟨some 57,none,.mv (.t 3)⟩,⟨some 2,none,.mv (.t 57)⟩] [2,1000000,1000001]) (.ret)))))
theorem ok143 : FnOk Tryd.prog Tryd.f143 58 keep143 ac143 [.t 2]:=by
  refine ⟨?_,?_,?_,?_,?_⟩ <;> kernel_rfl

/-! impl.cloneAll -/
/-! spec.l3Ok -/
/-! impl.arity -/
/-! slices.ContainsFunc[[]impl.Term,impl.Term] -/
/-! impl.formOk$1 -/
/-! impl.in -/
def keep149 : Nat → List Nat
  | 0 => [0,1,2]
  | 1 => [6]
  | _ => []
def ac149 : AC:=.seq (.region [⟨some 6,none,.mv (.c (.d true (.bool false)))⟩] [0,1,2]) (.seq (.region [⟨some 7,none,.mv (.t 0)⟩,⟨some 8,none,.mv (.t 1)⟩,⟨some 9,none,.bin .geq (.t 7) (.t 8)⟩,⟨some 10,none,.mv (.t 9)⟩,⟨some 11,some (10,true),.mv (.t 0)⟩,⟨some 12,some (10,true),.mv (.t 2)⟩,⟨some 13,some (10,true),.bin .leq (.t 11) (.t 12)⟩,⟨some 14,none,.pick (.t 10) (.t 13) (.c (.d true (.bool false)))⟩,⟨some 6,none,.mv (.t 14)⟩] [6]) (.ret))
theorem ok149 : FnOk Tryd.prog Tryd.f149 15 keep149 ac149 [.t 6]:=by
  refine ⟨?_,?_,?_,?_,?_⟩ <;> kernel_rfl

/-! spec.l1Kids -/
/-! spec.l6Domain -/
/-! impl.domainOk -/
/-! impl.PolicyOk$1 -/
/-! laws.szTermS -/
/-! laws.toTermS -/
/-! laws.markText -/
/-! impl.hasTerm$1 -/
/-! impl.madePub -/
/-! impl.made$1 -/
/-! slices.IndexFunc[[]string,string] -/
def keep166 : Nat → List Nat
  | 0 => [0,1]
  | 1 => [0,1,7,8]
  | 2 => [0,1,7,8,9]
  | 3 => [0,1,5,7,8]
  | 4 => [0,1,5,7,8,16]
  | 5 => [4]
  | 6 => [0,1,7,8]
  | 7 => [4]
  | _ => []
def ac166 : AC:=.seq (.region [⟨some 4,none,.mv (.c (.d true (.int .i64 0)))⟩] [0,1]) (.seq (.seq (.region [⟨some 6,none,.mv (.t 0)⟩,⟨some 7,none,.len (.t 6)⟩,⟨some 8,none,.mv (.c (.d true (.int .i64 0)))⟩] [0,1,7,8]) (.block 0 (.loop (.seq (.region [⟨some 9,none,.bin .lss (.t 8) (.t 7)⟩] [0,1,7,8,9]) (.seq (.cond (.t 9) (.skip) (.exit 0)) (.seq (.block 1 (.seq (.region [⟨some 10,none,.mv (.t 8)⟩,⟨some 5,none,.mv (.t 10)⟩] [0,1,5,7,8]) (.seq (.region [⟨some 11,none,.mv (.t 1)⟩,⟨some 12,none,.mv (.t 0)⟩,⟨some 13,none,.mv (.t 5)⟩,⟨some 14,none,.ia 1 (.t 12) (.t 13)⟩,⟨some 15,none,.ld none (.t 14)⟩,⟨some 16,none,.call (.t 11) [.t 15]⟩] [0,1,5,7,8,16]) (.cond (.t 16) (.seq (.region [⟨some 17,none,.mv (.t 5)⟩,⟨some 4,none,.mv (.t 17)⟩] [4]) (.ret)) (.skip))))) (.region [⟨some 18,none,.bin .add (.t 8) (.c (.d true (.int .i64 1)))⟩,⟨some 8,none,.mv (.t 18)⟩] [0,1,7,8]))))))) (.seq (.region [⟨some 4,none,.mv (.c (.d true (.int .i64 (-1))))⟩] [4]) (.ret)))
theorem ok166 : FnOk Tryd.prog Tryd.f166 19 keep166 ac166 [.t 4]:=by
  refine ⟨?_,?_,?_,?_,?_⟩ <;> kernel_rfl

/-! slices.IndexFunc[[]impl.Term,impl.Term] -/
end Go.Proofs.YtlddcimpdkcgeaaDoor
