/- Functions, as code over abstract states. -/
import Derived.Test.YtlddcimpdkcgeaaDoorS12
import Derived.Test.YtlddcimpdkcgeaaDoorProg
set_option linter.unusedVariables false
set_option linter.unusedSimpArgs false
set_option maxRecDepth 100000
namespace Go.Proofs.YtlddcimpdkcgeaaDoor
open Go.RowKit Sym

theorem mo : Tryd.prog.follows .mixedOrders = true:=by kernel_rfl
/-! laws.FnHidden -/
/-! laws.FnHosts -/
def keep4 : Nat → List Nat
  | 0 => [0]
  | 1 => [0,11]
  | 2 => [2]
  | 3 => [0,3,4]
  | 4 => [0,3,4,5,6]
  | 5 => [3,4,5,6,7]
  | 6 => [3,4,5,6,7,8]
  | 7 => [3,4,5,8,52]
  | 8 => [2]
  | 9 => [5,62]
  | 10 => [2]
  | 11 => [5,65]
  | 12 => [2]
  | 13 => [5,9]
  | 14 => [2]
  | _ => []
def ac4 : AC:=.seq (.region [⟨some 2,none,.mv (.c (.d true (.bool false)))⟩] [0]) (.seq (.seq (.region [⟨some 10,none,.mv (.t 0)⟩,⟨some 11,none,.call (.c (.fn 9 [])) [.t 10]⟩] [0,11]) (.cond (.t 11) (.seq (.region [⟨some 2,none,.mv (.c (.d true (.bool true)))⟩] [2]) (.ret)) (.skip))) (.seq (.region [⟨some 13,none,.mv (.t 0)⟩,⟨some 14,none,.call (.c (.fn 20 [])) [.t 13]⟩,⟨some 12,none,.mv (.t 14)⟩,⟨some 15,none,.ext (.t 12) 0⟩,⟨some 16,none,.ext (.t 12) 1⟩,⟨some 3,none,.mv (.t 15)⟩,⟨some 4,none,.mv (.t 16)⟩] [0,3,4]) (.seq (.region [⟨some 17,none,.mv (.t 0)⟩,⟨some 18,none,.call (.c (.fn 21 [])) [.t 17]⟩,⟨some 19,none,.mv (.t 0)⟩,⟨some 20,none,.call (.c (.fn 22 [])) [.t 19]⟩,⟨some 5,none,.mv (.t 18)⟩,⟨some 6,none,.mv (.t 20)⟩] [0,3,4,5,6]) (.seq (.region [⟨some 21,none,.mv (.t 0)⟩,⟨some 22,none,.call (.c (.fn 23 [])) [.t 21]⟩,⟨some 7,none,.mv (.t 22)⟩] [3,4,5,6,7]) (.seq (.region [⟨some 23,none,.mv (.t 3)⟩,⟨some 24,none,.mv (.t 4)⟩,⟨some 25,none,.call (.c (.fn 24 [])) [.t 23,.t 24]⟩,⟨some 8,none,.mv (.t 25)⟩] [3,4,5,6,7,8]) (.seq (.seq (.region [⟨some 26,none,.mv (.t 8)⟩,⟨some 27,none,.mv (.t 3)⟩,⟨some 28,none,.mv (.t 4)⟩,⟨some 29,none,.call (.c (.fn 25 [])) [.t 27,.t 28]⟩,⟨some 30,none,.beq true (.t 26) (.t 29)⟩,⟨some 31,none,.mv (.t 30)⟩,⟨some 32,some (31,false),.mv (.t 5)⟩,⟨some 33,some (31,false),.call (.c (.fn 26 [])) [.t 32]⟩,⟨some 34,some (31,false),.mv (.t 5)⟩,⟨some 35,some (31,false),.call (.c (.fn 27 [])) [.t 34]⟩,⟨some 36,some (31,false),.beq true (.t 33) (.t 35)⟩,⟨some 37,none,.pick (.t 31) (.c (.d true (.bool true))) (.t 36)⟩,⟨some 38,none,.mv (.t 37)⟩,⟨some 39,some (38,false),.mv (.t 6)⟩,⟨some 40,some (38,false),.call (.c (.fn 28 [])) [.t 39]⟩,⟨some 41,some (38,false),.mv (.t 6)⟩,⟨some 42,some (38,false),.call (.c (.fn 29 [])) [.t 41]⟩,⟨some 43,some (38,false),.beq true (.t 40) (.t 42)⟩,⟨some 44,none,.pick (.t 38) (.c (.d true (.bool true))) (.t 43)⟩,⟨some 45,none,.mv (.t 44)⟩,⟨some 46,some (45,false),.mv (.t 7)⟩,⟨some 47,some (45,false),.call (.c (.fn 31 [])) [.t 46]⟩,⟨some 48,some (45,false),.mv (.t 7)⟩,⟨some 49,some (45,false),.call (.c (.fn 32 [])) [.t 48]⟩,⟨some 50,some (45,false),.call (.c (.fn 30 [])) [.t 47,.t 49]⟩,⟨some 51,some (45,false),.not (.t 50)⟩,⟨some 52,none,.pick (.t 45) (.c (.d true (.bool true))) (.t 51)⟩] [3,4,5,8,52]) (.cond (.t 52) (.seq (.region [⟨some 2,none,.mv (.c (.d true (.bool false)))⟩] [2]) (.ret)) (.skip))) (.seq (.seq (.region [⟨some 53,none,.mv (.t 8)⟩,⟨some 54,none,.mv (.t 53)⟩,⟨some 55,some (54,true),.mv (.t 3)⟩,⟨some 56,some (54,true),.call (.c (.fn 31 [])) [.t 55]⟩,⟨some 57,some (54,true),.len (.t 56)⟩,⟨some 58,some (54,true),.mv (.t 4)⟩,⟨some 59,some (54,true),.call (.c (.fn 31 [])) [.t 58]⟩,⟨some 60,some (54,true),.len (.t 59)⟩,⟨some 61,some (54,true),.bin .neq (.t 57) (.t 60)⟩,⟨some 62,none,.pick (.t 54) (.t 61) (.c (.d true (.bool false)))⟩] [5,62]) (.cond (.t 62) (.seq (.region [⟨some 2,none,.mv (.c (.d true (.bool false)))⟩] [2]) (.ret)) (.skip))) (.seq (.seq (.region [⟨some 63,none,.mv (.t 5)⟩,⟨some 64,none,.call (.c (.fn 26 [])) [.t 63]⟩,⟨some 65,none,.not (.t 64)⟩] [5,65]) (.cond (.t 65) (.seq (.region [⟨some 2,none,.mv (.c (.d true (.bool true)))⟩] [2]) (.ret)) (.skip))) (.seq (.region [⟨some 66,none,.mv (.t 5)⟩,⟨some 67,none,.mv (.t 5)⟩,⟨some 68,none,.call (.c (.fn 31 [])) [.t 67]⟩,⟨some 69,none,.ia 1 (.t 68) (.c (.d true (.int .i64 0)))⟩,⟨some 70,none,.ld none (.t 69)⟩,⟨some 71,none,.slen (.t 70)⟩,⟨some 72,none,.bin .add (.t 71) (.c (.d true (.int .i64 1)))⟩,⟨some 73,none,.sls (.t 66) (some (.t 72)) none⟩,⟨some 9,none,.mv (.t 73)⟩] [5,9]) (.seq (.region [⟨some 74,none,.mv (.t 5)⟩,⟨some 75,none,.call (.c (.fn 28 [])) [.t 74]⟩,⟨some 76,none,.mv (.t 75)⟩,⟨some 77,some (76,true),.mv (.t 5)⟩,⟨some 78,some (76,true),.mv (.t 5)⟩,⟨some 79,some (76,true),.call (.c (.fn 24 [])) [.t 77,.t 78]⟩,⟨some 80,none,.pick (.t 76) (.t 79) (.c (.d true (.bool false)))⟩,⟨some 81,none,.mv (.t 80)⟩,⟨some 82,some (81,true),.mv (.t 9)⟩,⟨some 83,some (81,true),.call (.c (.fn 26 [])) [.t 82]⟩,⟨some 84,some (81,true),.not (.t 83)⟩,⟨some 85,some (81,true),.mv (.t 84)⟩,⟨some 86,some (85,false),.mv (.t 9)⟩,⟨some 87,some (85,false),.bin .add (.c (.d true (.str ⟨#[42,46]⟩))) (.t 86)⟩,⟨some 88,some (85,false),.mv (.t 5)⟩,⟨some 89,some (85,false),.call (.c (.fn 24 [])) [.t 87,.t 88]⟩,⟨some 90,some (85,false),.mv (.t 89)⟩,⟨some 91,some (90,true),.mv (.t 9)⟩,⟨some 92,some (90,true),.bin .add (.c (.d true (.str ⟨#[42,46]⟩))) (.t 91)⟩,⟨some 93,some (90,true),.mv (.t 5)⟩,⟨some 94,some (90,true),.bin .add (.c (.d true (.str ⟨#[113,46]⟩))) (.t 93)⟩,⟨some 95,some (90,true),.call (.c (.fn 24 [])) [.t 92,.t 94]⟩,⟨some 96,some (90,true),.not (.t 95)⟩,⟨some 97,some (85,false),.pick (.t 90) (.t 96) (.c (.d true (.bool false)))⟩,⟨some 98,some (81,true),.pick (.t 85) (.c (.d true (.bool true))) (.t 97)⟩,⟨some 99,none,.pick (.t 81) (.t 98) (.c (.d true (.bool false)))⟩,⟨some 2,none,.mv (.t 99)⟩] [2]) (.ret)))))))))))
theorem ok4 : FnOk Tryd.prog Tryd.f4 100 keep4 ac4 [.t 2]:=by
  refine ⟨?_,?_,?_,?_,?_⟩ <;> kernel_rfl

/-! laws.FnSeals -/
/-! laws.FnTerms -/
/-! laws.FnExactPolicyText -/
/-! laws.FnExactCertTerm -/
/-! laws.big -/
def keep9 : Nat → List Nat
  | 0 => [0]
  | 1 => [2]
  | _ => []
def ac9 : AC:=.seq (.region [⟨some 2,none,.mv (.c (.d true (.bool false)))⟩] [0]) (.seq (.region [⟨some 3,none,.mv (.t 0)⟩,⟨some 4,none,.len (.t 3)⟩,⟨some 5,none,.bin .gtr (.t 4) (.c (.d true (.int .i64 1048576)))⟩,⟨some 2,none,.mv (.t 5)⟩] [2]) (.ret))
theorem ok9 : FnOk Tryd.prog Tryd.f9 6 keep9 ac9 [.t 2]:=by
  refine ⟨?_,?_,?_,?_,?_⟩ <;> kernel_rfl

/-! spec.DrawParts -/
/-! laws.has -/
/-! impl.Atom -/
/-! impl.Parts -/
/-! spec.Parts -/
/-! impl.Agree -/
/-! impl.Pub -/
/-! impl.Seal -/
/-! impl.KeyOf -/
/-! impl.Can -/
/-! spec.DrawFits -/
def keep20 : Nat → List Nat
  | 0 => [0]
  | 1 => [4]
  | 2 => [4,5]
  | 3 => [4,5,11]
  | 4 => [2,3]
  | 5 => [2,3]
  | _ => []
def ac20 : AC:=.seq (.region [⟨some 2,none,.mv (.c (.d true (.str ⟨#[]⟩)))⟩,⟨some 3,none,.mv (.c (.d true (.str ⟨#[]⟩)))⟩] [0]) (.seq (.region [⟨some 6,none,.mv (.t 0)⟩,⟨some 7,none,.call (.c (.fn 76 [])) [.t 6]⟩,⟨some 4,none,.mv (.t 7)⟩] [4]) (.seq (.region [⟨some 8,none,.mv (.t 4)⟩,⟨some 9,none,.call (.c (.fn 86 [])) [.t 8]⟩,⟨some 5,none,.mv (.t 9)⟩] [4,5]) (.seq (.seq (.region [⟨some 10,none,.mv (.t 4)⟩,⟨some 11,none,.call (.c (.fn 87 [])) [.t 10,.c (.d true (.int .i64 4))]⟩] [4,5,11]) (.cond (.t 11) (.seq (.region [⟨some 12,none,.mv (.t 5)⟩,⟨some 13,none,.mv (.t 4)⟩,⟨some 14,none,.call (.c (.fn 86 [])) [.t 13]⟩,⟨some 2,none,.mv (.t 12)⟩,⟨some 3,none,.mv (.t 14)⟩] [2,3]) (.ret)) (.skip))) (.seq (.region [⟨some 15,none,.mv (.t 5)⟩,⟨some 16,none,.mv (.t 4)⟩,⟨some 17,none,.call (.c (.fn 88 [])) [.t 16]⟩,⟨some 2,none,.mv (.t 15)⟩,⟨some 3,none,.mv (.t 17)⟩] [2,3]) (.ret)))))
theorem ok20 : FnOk Tryd.prog Tryd.f20 18 keep20 ac20 [.t 2,.t 3]:=by
  refine ⟨?_,?_,?_,?_,?_⟩ <;> kernel_rfl

/-! spec.DrawHostOk -/
def keep21 : Nat → List Nat
  | 0 => [0]
  | 1 => [2]
  | _ => []
def ac21 : AC:=.seq (.region [⟨some 2,none,.mv (.c (.d true (.str ⟨#[]⟩)))⟩] [0]) (.seq (.region [⟨some 3,none,.mv (.t 0)⟩,⟨some 4,none,.call (.c (.fn 76 [])) [.t 3]⟩,⟨some 5,none,.call (.c (.fn 86 [])) [.t 4]⟩,⟨some 2,none,.mv (.t 5)⟩] [2]) (.ret))
theorem ok21 : FnOk Tryd.prog Tryd.f21 6 keep21 ac21 [.t 2]:=by
  refine ⟨?_,?_,?_,?_,?_⟩ <;> kernel_rfl

/-! spec.DrawPatternOk -/
def keep22 : Nat → List Nat
  | 0 => [0]
  | 1 => [2]
  | _ => []
def ac22 : AC:=.seq (.region [⟨some 2,none,.mv (.c (.d true (.str ⟨#[]⟩)))⟩] [0]) (.seq (.region [⟨some 3,none,.mv (.t 0)⟩,⟨some 4,none,.call (.c (.fn 76 [])) [.t 3]⟩,⟨some 5,none,.call (.c (.fn 86 [])) [.t 4]⟩,⟨some 2,none,.mv (.t 5)⟩] [2]) (.ret))
theorem ok22 : FnOk Tryd.prog Tryd.f22 6 keep22 ac22 [.t 2]:=by
  refine ⟨?_,?_,?_,?_,?_⟩ <;> kernel_rfl

/-! spec.DrawLabels -/
def keep23 : Nat → List Nat
  | 0 => [0]
  | 1 => [2]
  | _ => []
def ac23 : AC:=.seq (.region [⟨some 2,none,.mv (.c (.d true (.str ⟨#[]⟩)))⟩] [0]) (.seq (.region [⟨some 3,none,.mv (.t 0)⟩,⟨some 4,none,.call (.c (.fn 76 [])) [.t 3]⟩,⟨some 5,none,.call (.c (.fn 86 [])) [.t 4]⟩,⟨some 2,none,.mv (.t 5)⟩] [2]) (.ret))
theorem ok23 : FnOk Tryd.prog Tryd.f23 6 keep23 ac23 [.t 2]:=by
  refine ⟨?_,?_,?_,?_,?_⟩ <;> kernel_rfl

/-! impl.Fits -/
def keep24 : Nat → List Nat
  | 0 => [0,1]
  | 1 => [0,1,17]
  | 2 => [4]
  | 3 => [0,1,5,6]
  | 4 => [0,1,5,6,8]
  | 5 => [4]
  | _ => []
def ac24 : AC:=.seq (.region [⟨some 4,none,.mv (.c (.d true (.bool false)))⟩] [0,1]) (.seq (.seq (.region [⟨some 10,none,.mv (.t 0)⟩,⟨some 11,none,.call (.c (.fn 28 [])) [.t 10]⟩,⟨some 12,none,.not (.t 11)⟩,⟨some 13,none,.mv (.t 12)⟩,⟨some 14,some (13,false),.mv (.t 1)⟩,⟨some 15,some (13,false),.call (.c (.fn 26 [])) [.t 14]⟩,⟨some 16,some (13,false),.not (.t 15)⟩,⟨some 17,none,.pick (.t 13) (.c (.d true (.bool true))) (.t 16)⟩] [0,1,17]) (.cond (.t 17) (.seq (.region [⟨some 4,none,.mv (.c (.d true (.bool false)))⟩] [4]) (.ret)) (.skip))) (.seq (.region [⟨some 19,none,.mv (.t 0)⟩,⟨some 20,none,.call (.c (.fn 89 [])) [.t 19,.c (.d true (.str ⟨#[42,46]⟩))]⟩,⟨some 18,none,.mv (.t 20)⟩,⟨some 21,none,.ext (.t 18) 0⟩,⟨some 22,none,.ext (.t 18) 1⟩,⟨some 5,none,.mv (.t 21)⟩,⟨some 6,none,.mv (.t 22)⟩] [0,1,5,6]) (.seq (.region [⟨some 24,none,.mv (.t 1)⟩,⟨some 25,none,.call (.c (.fn 90 [])) [.t 24,.c (.d true (.str ⟨#[46]⟩))]⟩,⟨some 23,none,.mv (.t 25)⟩,⟨some 26,none,.ext (.t 23) 0⟩,⟨some 27,none,.ext (.t 23) 1⟩,⟨some 28,none,.ext (.t 23) 2⟩,⟨some 7,none,.mv (.t 26)⟩,⟨some 8,none,.mv (.t 27)⟩,⟨some 9,none,.mv (.t 28)⟩] [0,1,5,6,8]) (.seq (.region [⟨some 29,none,.mv (.t 0)⟩,⟨some 30,none,.mv (.t 1)⟩,⟨some 31,none,.bin .eql (.t 29) (.t 30)⟩,⟨some 32,none,.mv (.t 31)⟩,⟨some 33,some (32,false),.mv (.t 6)⟩,⟨some 34,some (32,false),.mv (.t 33)⟩,⟨some 35,some (34,true),.mv (.t 8)⟩,⟨some 36,some (34,true),.mv (.t 5)⟩,⟨some 37,some (34,true),.bin .eql (.t 35) (.t 36)⟩,⟨some 38,some (32,false),.pick (.t 34) (.t 37) (.c (.d true (.bool false)))⟩,⟨some 39,none,.pick (.t 32) (.c (.d true (.bool true))) (.t 38)⟩,⟨some 4,none,.mv (.t 39)⟩] [4]) (.ret)))))
theorem ok24 : FnOk Tryd.prog Tryd.f24 40 keep24 ac24 [.t 4]:=by
  refine ⟨?_,?_,?_,?_,?_⟩ <;> kernel_rfl

/-! spec.Fits -/
def keep25 : Nat → List Nat
  | 0 => [0,1]
  | 1 => [0,1,13]
  | 2 => [4]
  | 3 => [0,1,16]
  | 4 => [4]
  | 5 => [0,1,5]
  | 6 => [4]
  | _ => []
def ac25 : AC:=.seq (.region [⟨some 4,none,.mv (.c (.d true (.bool false)))⟩] [0,1]) (.seq (.seq (.region [⟨some 6,none,.mv (.t 0)⟩,⟨some 7,none,.call (.c (.fn 29 [])) [.t 6]⟩,⟨some 8,none,.not (.t 7)⟩,⟨some 9,none,.mv (.t 8)⟩,⟨some 10,some (9,false),.mv (.t 1)⟩,⟨some 11,some (9,false),.call (.c (.fn 27 [])) [.t 10]⟩,⟨some 12,some (9,false),.not (.t 11)⟩,⟨some 13,none,.pick (.t 9) (.c (.d true (.bool true))) (.t 12)⟩] [0,1,13]) (.cond (.t 13) (.seq (.region [⟨some 4,none,.mv (.c (.d true (.bool false)))⟩] [4]) (.ret)) (.skip))) (.seq (.seq (.region [⟨some 14,none,.mv (.t 0)⟩,⟨some 15,none,.mv (.t 1)⟩,⟨some 16,none,.bin .eql (.t 14) (.t 15)⟩] [0,1,16]) (.cond (.t 16) (.seq (.region [⟨some 4,none,.mv (.c (.d true (.bool true)))⟩] [4]) (.ret)) (.skip))) (.seq (.region [⟨some 17,none,.mv (.t 1)⟩,⟨some 18,none,.call (.c (.fn 32 [])) [.t 17]⟩,⟨some 19,none,.ia 1 (.t 18) (.c (.d true (.int .i64 0)))⟩,⟨some 20,none,.ld none (.t 19)⟩,⟨some 5,none,.mv (.t 20)⟩] [0,1,5]) (.seq (.draw [⟨some 21,none,.mv (.t 0)⟩,⟨some 22,none,.call (.c (.fn 91 [])) [.t 21]⟩,⟨some 23,none,.mv (.t 22)⟩,⟨some 24,some (23,true),.mv (.t 1)⟩,⟨some 25,some (23,true),.mv (.t 5)⟩,⟨some 26,some (23,true),.slen (.t 25)⟩,⟨some 27,some (23,true),.bin .add (.t 26) (.c (.d true (.int .i64 1)))⟩,⟨some 28,some (23,true),.sls (.t 24) (some (.t 27)) none⟩,⟨some 29,some (23,true),.mv (.t 0)⟩,⟨some 30,some (23,true),.sls (.t 29) (some (.c (.d true (.int .i64 2)))) none⟩,⟨some 31,some (23,true),.bin .eql (.t 28) (.t 30)⟩,⟨some 32,none,.pick (.t 23) (.t 31) (.c (.d true (.bool false)))⟩,⟨some 4,none,.mv (.t 32)⟩] [4]) (.ret)))))
theorem ok25 : FnOk Tryd.prog Tryd.f25 33 keep25 ac25 [.t 4]:=by
  refine ⟨?_,?_,?_,?_,?_⟩ <;> kernel_rfl

/-! impl.HostOk -/
def keep26 : Nat → List Nat
  | 0 => [0]
  | 1 => [2]
  | _ => []
def ac26 : AC:=.seq (.region [⟨some 2,none,.mv (.c (.d true (.bool false)))⟩] [0]) (.seq (.region [⟨some 3,none,.mv (.t 0)⟩,⟨some 4,none,.call (.c (.fn 92 [])) [.t 3,.c (.d true (.int .i64 2))]⟩,⟨some 2,none,.mv (.t 4)⟩] [2]) (.ret))
theorem ok26 : FnOk Tryd.prog Tryd.f26 5 keep26 ac26 [.t 2]:=by
  refine ⟨?_,?_,?_,?_,?_⟩ <;> kernel_rfl

/-! spec.HostOk -/
def keep27 : Nat → List Nat
  | 0 => [0]
  | 1 => [2]
  | _ => []
def ac27 : AC:=.seq (.region [⟨some 2,none,.mv (.c (.d true (.bool false)))⟩] [0]) (.seq (.region [⟨some 3,none,.mv (.t 0)⟩,⟨some 4,none,.call (.c (.fn 93 [])) [.t 3,.c (.d true (.int .i64 2))]⟩,⟨some 2,none,.mv (.t 4)⟩] [2]) (.ret))
theorem ok27 : FnOk Tryd.prog Tryd.f27 5 keep27 ac27 [.t 2]:=by
  refine ⟨?_,?_,?_,?_,?_⟩ <;> kernel_rfl

/-! impl.PatternOk -/
def keep28 : Nat → List Nat
  | 0 => [0]
  | 1 => [0,3,4]
  | 2 => [0,3,10]
  | 3 => [2]
  | 4 => [2]
  | _ => []
def ac28 : AC:=.seq (.region [⟨some 2,none,.mv (.c (.d true (.bool false)))⟩] [0]) (.seq (.region [⟨some 6,none,.mv (.t 0)⟩,⟨some 7,none,.call (.c (.fn 89 [])) [.t 6,.c (.d true (.str ⟨#[42,46]⟩))]⟩,⟨some 5,none,.mv (.t 7)⟩,⟨some 8,none,.ext (.t 5) 0⟩,⟨some 9,none,.ext (.t 5) 1⟩,⟨some 3,none,.mv (.t 8)⟩,⟨some 4,none,.mv (.t 9)⟩] [0,3,4]) (.seq (.seq (.region [⟨some 10,none,.mv (.t 4)⟩] [0,3,10]) (.cond (.t 10) (.seq (.region [⟨some 11,none,.mv (.t 3)⟩,⟨some 12,none,.call (.c (.fn 92 [])) [.t 11,.c (.d true (.int .i64 1))]⟩,⟨some 2,none,.mv (.t 12)⟩] [2]) (.ret)) (.skip))) (.seq (.region [⟨some 13,none,.mv (.t 0)⟩,⟨some 14,none,.call (.c (.fn 26 [])) [.t 13]⟩,⟨some 2,none,.mv (.t 14)⟩] [2]) (.ret))))
theorem ok28 : FnOk Tryd.prog Tryd.f28 15 keep28 ac28 [.t 2]:=by
  refine ⟨?_,?_,?_,?_,?_⟩ <;> kernel_rfl

/-! spec.PatternOk -/
def keep29 : Nat → List Nat
  | 0 => [0]
  | 1 => [2]
  | _ => []
def ac29 : AC:=.seq (.region [⟨some 2,none,.mv (.c (.d true (.bool false)))⟩] [0]) (.seq (.region [⟨some 3,none,.mv (.t 0)⟩,⟨some 4,none,.call (.c (.fn 27 [])) [.t 3]⟩,⟨some 5,none,.mv (.t 4)⟩,⟨some 6,some (5,false),.mv (.t 0)⟩,⟨some 7,some (5,false),.call (.c (.fn 91 [])) [.t 6]⟩,⟨some 8,some (5,false),.mv (.t 7)⟩,⟨some 9,some (8,true),.mv (.t 0)⟩,⟨some 10,some (8,true),.sls (.t 9) (some (.c (.d true (.int .i64 2)))) none⟩,⟨some 11,some (8,true),.call (.c (.fn 93 [])) [.t 10,.c (.d true (.int .i64 1))]⟩,⟨some 12,some (5,false),.pick (.t 8) (.t 11) (.c (.d true (.bool false)))⟩,⟨some 13,none,.pick (.t 5) (.c (.d true (.bool true))) (.t 12)⟩,⟨some 2,none,.mv (.t 13)⟩] [2]) (.ret))
theorem ok29 : FnOk Tryd.prog Tryd.f29 14 keep29 ac29 [.t 2]:=by
  refine ⟨?_,?_,?_,?_,?_⟩ <;> kernel_rfl

/-! laws.sameTexts -/
def keep30 : Nat → List Nat
  | 0 => [0,1]
  | 1 => [0,1,10]
  | 2 => [4]
  | 3 => [0,1,5]
  | 4 => [0,1,5,14]
  | 5 => [0,1,5]
  | 6 => [0,1,5,25]
  | 7 => [4]
  | 8 => [4]
  | _ => []
def ac30 : AC:=.seq (.region [⟨some 4,none,.mv (.c (.d true (.bool false)))⟩] [0,1]) (.seq (.seq (.region [⟨some 6,none,.mv (.t 0)⟩,⟨some 7,none,.len (.t 6)⟩,⟨some 8,none,.mv (.t 1)⟩,⟨some 9,none,.len (.t 8)⟩,⟨some 10,none,.bin .neq (.t 7) (.t 9)⟩] [0,1,10]) (.cond (.t 10) (.seq (.region [⟨some 4,none,.mv (.c (.d true (.bool false)))⟩] [4]) (.ret)) (.skip))) (.seq (.seq (.region [⟨some 5,none,.mv (.c (.d true (.int .i64 0)))⟩] [0,1,5]) (.block 0 (.loop (.seq (.seq (.region [⟨some 11,none,.mv (.t 5)⟩,⟨some 12,none,.mv (.t 0)⟩,⟨some 13,none,.len (.t 12)⟩,⟨some 14,none,.bin .lss (.t 11) (.t 13)⟩] [0,1,5,14]) (.cond (.t 14) (.skip) (.exit 0))) (.seq (.block 1 (.seq (.draw [⟨some 17,none,.mv (.t 0)⟩,⟨some 18,none,.mv (.t 5)⟩,⟨some 19,none,.ia 1 (.t 17) (.t 18)⟩,⟨some 20,none,.ld none (.t 19)⟩,⟨some 21,none,.mv (.t 1)⟩,⟨some 22,none,.mv (.t 5)⟩,⟨some 23,none,.ia 1 (.t 21) (.t 22)⟩,⟨some 24,none,.ld none (.t 23)⟩,⟨some 25,none,.bin .neq (.t 20) (.t 24)⟩] [0,1,5,25]) (.cond (.t 25) (.seq (.region [⟨some 4,none,.mv (.c (.d true (.bool false)))⟩] [4]) (.ret)) (.skip)))) (.region [⟨some 15,none,.mv (.t 5)⟩,⟨some 16,none,.bin .add (.t 15) (.c (.d true (.int .i64 1)))⟩,⟨some 5,none,.mv (.t 16)⟩] [0,1,5])))))) (.seq (.region [⟨some 4,none,.mv (.c (.d true (.bool true)))⟩] [4]) (.ret))))
theorem ok30 : FnOk Tryd.prog Tryd.f30 26 keep30 ac30 [.t 4]:=by
  refine ⟨?_,?_,?_,?_,?_⟩ <;> kernel_rfl

/-! impl.Labels -/
def keep31 : Nat → List Nat
  | 0 => [0]
  | 1 => [2]
  | _ => []
def ac31 : AC:=.seq (.region [⟨some 2,none,.own 9 1⟩] [0]) (.seq (.region [⟨some 3,none,.mv (.t 0)⟩,⟨some 4,none,.call (.c (.fn 94 [])) [.t 3,.c (.d true (.str ⟨#[46]⟩))]⟩,⟨some 2,none,.mv (.t 4)⟩] [2]) (.ret))
theorem ok31 : FnOk Tryd.prog Tryd.f31 5 keep31 ac31 [.t 2]:=by
  refine ⟨?_,?_,?_,?_,?_⟩ <;> kernel_rfl

/-! spec.Labels -/
def keep32 : Nat → List Nat
  | 0 => [0]
  | 1 => [0,3]
  | 2 => [0,3,4]
  | 3 => [0,3,4,5]
  | 4 => [0,3,4,5,10]
  | 5 => [0,3,4,5]
  | 6 => [0,3,4,5,22]
  | 7 => [0,3,5]
  | 8 => [0,3,4,5]
  | 9 => [2]
  | _ => []
def ac32 : AC:=.seq (.region [⟨some 2,none,.own 9 1⟩] [0]) (.seq (.region [⟨some 6,none,.bs 9 1 []⟩,⟨some 3,none,.mv (.t 6)⟩] [0,3]) (.seq (.region [⟨some 4,none,.mv (.c (.d true (.int .i64 0)))⟩] [0,3,4]) (.seq (.seq (.region [⟨some 5,none,.mv (.c (.d true (.int .i64 0)))⟩] [0,3,4,5]) (.block 0 (.loop (.seq (.seq (.region [⟨some 7,none,.mv (.t 5)⟩,⟨some 8,none,.mv (.t 0)⟩,⟨some 9,none,.slen (.t 8)⟩,⟨some 10,none,.bin .leq (.t 7) (.t 9)⟩] [0,3,4,5,10]) (.cond (.t 10) (.skip) (.exit 0))) (.seq (.block 1 (.seq (.region [⟨some 13,none,.mv (.t 5)⟩,⟨some 14,none,.mv (.t 0)⟩,⟨some 15,none,.slen (.t 14)⟩,⟨some 16,none,.bin .eql (.t 13) (.t 15)⟩,⟨some 17,none,.mv (.t 16)⟩,⟨some 18,some (17,false),.mv (.t 0)⟩,⟨some 19,some (17,false),.mv (.t 5)⟩,⟨some 20,some (17,false),.ix (.t 18) (.t 19)⟩,⟨some 21,some (17,false),.bin .eql (.t 20) (.c (.d true (.int .u8 46)))⟩,⟨some 22,none,.pick (.t 17) (.c (.d true (.bool true))) (.t 21)⟩] [0,3,4,5,22]) (.cond (.t 22) (.seq (.region [⟨some 23,none,.mv (.t 3)⟩,⟨some 24,none,.mv (.t 0)⟩,⟨some 25,none,.mv (.t 4)⟩,⟨some 26,none,.mv (.t 5)⟩,⟨some 27,none,.sls (.t 24) (some (.t 25)) (some (.t 26))⟩,⟨some 28,none,.bs 9 1 [.t 27]⟩,⟨some 29,none,.app 9 1 16 (.t 23) (.t 28)⟩,⟨some 3,none,.mv (.t 29)⟩] [0,3,5]) (.region [⟨some 30,none,.mv (.t 5)⟩,⟨some 31,none,.bin .add (.t 30) (.c (.d true (.int .i64 1)))⟩,⟨some 4,none,.mv (.t 31)⟩] [0,3,4,5])) (.skip)))) (.region [⟨some 11,none,.mv (.t 5)⟩,⟨some 12,none,.bin .add (.t 11) (.c (.d true (.int .i64 1)))⟩,⟨some 5,none,.mv (.t 12)⟩] [0,3,4,5])))))) (.seq (.region [⟨some 32,none,.mv (.t 3)⟩,⟨some 2,none,.mv (.t 32)⟩] [2]) (.ret)))))
theorem ok32 : FnOk Tryd.prog Tryd.f32 33 keep32 ac32 [.t 2]:=by
  refine ⟨?_,?_,?_,?_,?_⟩ <;> kernel_rfl

/-! spec.DrawSeal -/
/-! spec.DrawOpen -/
/-! impl.Open -/
/-! spec.Open -/
/-! spec.DrawSigned -/
/-! impl.Signed -/
/-! spec.Signed -/
/-! spec.DrawSign -/
/-! spec.DrawKeyOf -/
/-! impl.Same -/
/-! spec.Seal -/
/-! impl.Sign -/
/-! spec.Sign -/
/-! spec.KeyOf -/
/-! spec.DrawBefore -/
/-! spec.DrawSame -/
/-! spec.DrawTermOk -/
/-! spec.DrawTermSize -/
/-! spec.DrawTermText -/
/-! impl.Before -/
/-! spec.Before -/
/-! spec.Same -/
/-! impl.TermOk -/
/-! spec.TermOk -/
/-! impl.TermSize -/
/-! spec.TermSize -/
/-! impl.TermText -/
/-! spec.TermText -/
/-! laws.szPolicy -/
/-! spec.PolicyText -/
/-! laws.toPolicy -/
/-! impl.PolicyText -/
/-! laws.eqPolicy -/
/-! laws.szCert -/
/-! spec.CertTerm -/
end Go.Proofs.YtlddcimpdkcgeaaDoor
