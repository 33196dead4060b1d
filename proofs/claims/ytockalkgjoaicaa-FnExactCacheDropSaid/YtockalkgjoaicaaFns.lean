/- Functions, as code over abstract states. -/
import Derived.Test.YtockalkgjoaicaaS12
import Derived.Test.YtockalkgjoaicaaProg
set_option linter.unusedVariables false
set_option linter.unusedSimpArgs false
set_option maxRecDepth 100000
namespace Go.Proofs.Ytockalkgjoaicaa
open Go.RowKit Sym

theorem mo : Try.prog.follows .mixedOrders = true:=by kernel_rfl
/-! laws.FnExactCacheDrop -/
def keep3 : Nat → List Nat
  | 0 => [0,1]
  | 1 => [0,1,5]
  | 2 => [0,1,5]
  | 3 => [0,1,17]
  | 4 => [4]
  | 5 => [0,1,6]
  | 6 => [0,1,6,7]
  | 7 => [0,1,6,7,8]
  | 8 => [0,1,6,7,8,30]
  | 9 => [4]
  | 10 => [0,1,6,7,8,35]
  | 11 => [4]
  | 12 => [0,1,6,7,8,9]
  | 13 => [0,1,6,8,9]
  | 14 => [0,1,6,8,46]
  | 15 => [4]
  | 16 => [0,1,6,8,10]
  | 17 => [0,1,6,8,10]
  | 18 => [0,1,6,8,10,11]
  | 19 => [0,1,6,8,10,11]
  | 20 => [0,1,6,8,10,11,54]
  | 21 => [4]
  | 22 => [0,1,6,8,10,57]
  | 23 => [4]
  | 24 => [6,8,10,12]
  | 25 => [8,10,65]
  | 26 => [4]
  | 27 => [8,10,11]
  | 28 => [10,11]
  | 29 => [10,11,70]
  | 30 => [4]
  | 31 => [73]
  | 32 => [4]
  | 33 => [4]
  | _ => []
def ac3 : AC:=.seq (.region [⟨some 4,none,.mv (.c (.d true (.bool false)))⟩] [0,1]) (.seq (.region [⟨some 5,none,.mv (.c (.d true (.int .i64 1048576)))⟩] [0,1,5]) (.seq (.region [⟨some 13,none,.mv (.t 0)⟩,⟨some 14,none,.mv (.t 5)⟩,⟨some 15,none,.call (.c (.fn 4 [])) [.t 13,.t 14]⟩,⟨some 5,none,.mv (.t 15)⟩] [0,1,5]) (.seq (.seq (.region [⟨some 16,none,.mv (.t 5)⟩,⟨some 17,none,.bin .lss (.t 16) (.c (.d true (.int .i64 0)))⟩] [0,1,17]) (.cond (.t 17) (.seq (.region [⟨some 4,none,.mv (.c (.d true (.bool true)))⟩] [4]) (.ret)) (.skip))) (.seq (.region [⟨some 18,none,.mv (.t 0)⟩,⟨some 19,none,.call (.c (.fn 6 [])) [.t 18]⟩,⟨some 20,none,.mv (.t 1)⟩,⟨some 21,none,.call (.c (.fn 5 [])) [.t 19,.t 20]⟩,⟨some 6,none,.mv (.t 21)⟩] [0,1,6]) (.seq (.region [⟨some 22,none,.mv (.t 0)⟩,⟨some 23,none,.call (.c (.fn 6 [])) [.t 22]⟩,⟨some 7,none,.mv (.t 23)⟩] [0,1,6,7]) (.seq (.region [⟨some 24,none,.mv (.t 7)⟩,⟨some 25,none,.mv (.t 1)⟩,⟨some 26,none,.call (.c (.fn 7 [])) [.t 24,.t 25]⟩,⟨some 8,none,.mv (.t 26)⟩] [0,1,6,7,8]) (.seq (.seq (.region [⟨some 27,none,.mv (.t 8)⟩,⟨some 28,none,.mv (.t 6)⟩,⟨some 29,none,.call (.c (.fn 8 [])) [.t 27,.t 28]⟩,⟨some 30,none,.not (.t 29)⟩] [0,1,6,7,8,30]) (.cond (.t 30) (.seq (.region [⟨some 4,none,.mv (.c (.d true (.bool false)))⟩] [4]) (.ret)) (.skip))) (.seq (.seq (.region [⟨some 31,none,.mv (.t 7)⟩,⟨some 32,none,.mv (.t 0)⟩,⟨some 33,none,.call (.c (.fn 6 [])) [.t 32]⟩,⟨some 34,none,.call (.c (.fn 8 [])) [.t 31,.t 33]⟩,⟨some 35,none,.not (.t 34)⟩] [0,1,6,7,8,35]) (.cond (.t 35) (.seq (.region [⟨some 4,none,.mv (.c (.d true (.bool false)))⟩] [4]) (.ret)) (.skip))) (.seq (.region [⟨some 9,none,.mv (.c (.d true (.int .i64 1)))⟩] [0,1,6,7,8,9]) (.seq (.region [⟨some 36,none,.mv (.t 7)⟩,⟨some 37,none,.mv (.t 9)⟩,⟨some 38,none,.call (.c (.fn 9 [])) [.t 36,.t 37]⟩,⟨some 9,none,.mv (.t 38)⟩] [0,1,6,8,9]) (.seq (.seq (.region [⟨some 39,none,.mv (.t 9)⟩,⟨some 40,none,.bin .lss (.t 39) (.c (.d true (.int .i64 0)))⟩,⟨some 41,none,.mv (.t 40)⟩,⟨some 42,some (41,false),.mv (.t 8)⟩,⟨some 43,some (41,false),.mv (.t 6)⟩,⟨some 44,some (41,false),.call (.c (.fn 8 [])) [.t 42,.t 43]⟩,⟨some 45,some (41,false),.not (.t 44)⟩,⟨some 46,none,.pick (.t 41) (.c (.d true (.bool true))) (.t 45)⟩] [0,1,6,8,46]) (.cond (.t 46) (.seq (.region [⟨some 4,none,.mv (.c (.d true (.bool false)))⟩] [4]) (.ret)) (.skip))) (.seq (.region [⟨some 10,none,.mv (.c (.d true (.int .i64 1)))⟩] [0,1,6,8,10]) (.seq (.region [⟨some 47,none,.mv (.t 8)⟩,⟨some 48,none,.mv (.t 10)⟩,⟨some 49,none,.call (.c (.fn 9 [])) [.t 47,.t 48]⟩,⟨some 10,none,.mv (.t 49)⟩] [0,1,6,8,10]) (.seq (.region [⟨some 11,none,.mv (.c (.d true (.int .i64 1)))⟩] [0,1,6,8,10,11]) (.seq (.region [⟨some 50,none,.mv (.t 8)⟩,⟨some 51,none,.mv (.t 11)⟩,⟨some 52,none,.call (.c (.fn 10 [])) [.t 50,.t 51]⟩,⟨some 11,none,.mv (.t 52)⟩] [0,1,6,8,10,11]) (.seq (.seq (.region [⟨some 53,none,.mv (.t 11)⟩,⟨some 54,none,.bin .lss (.t 53) (.c (.d true (.int .i64 0)))⟩] [0,1,6,8,10,11,54]) (.cond (.t 54) (.seq (.region [⟨some 4,none,.mv (.c (.d true (.bool false)))⟩] [4]) (.ret)) (.skip))) (.seq (.seq (.region [⟨some 55,none,.mv (.t 11)⟩,⟨some 56,none,.mv (.t 10)⟩,⟨some 57,none,.bin .neq (.t 55) (.t 56)⟩] [0,1,6,8,10,57]) (.cond (.t 57) (.seq (.region [⟨some 4,none,.mv (.c (.d true (.bool false)))⟩] [4]) (.ret)) (.skip))) (.seq (.region [⟨some 58,none,.mv (.t 0)⟩,⟨some 59,none,.call (.c (.fn 6 [])) [.t 58]⟩,⟨some 60,none,.mv (.t 1)⟩,⟨some 61,none,.call (.c (.fn 7 [])) [.t 59,.t 60]⟩,⟨some 12,none,.mv (.t 61)⟩] [6,8,10,12]) (.seq (.seq (.region [⟨some 62,none,.mv (.t 12)⟩,⟨some 63,none,.mv (.t 6)⟩,⟨some 64,none,.call (.c (.fn 8 [])) [.t 62,.t 63]⟩,⟨some 65,none,.not (.t 64)⟩] [8,10,65]) (.cond (.t 65) (.seq (.region [⟨some 4,none,.mv (.c (.d true (.bool false)))⟩] [4]) (.ret)) (.skip))) (.seq (.region [⟨some 11,none,.mv (.c (.d true (.int .i64 1)))⟩] [8,10,11]) (.seq (.region [⟨some 66,none,.mv (.t 8)⟩,⟨some 67,none,.mv (.t 11)⟩,⟨some 68,none,.call (.c (.fn 10 [])) [.t 66,.t 67]⟩,⟨some 11,none,.mv (.t 68)⟩] [10,11]) (.seq (.seq (.region [⟨some 69,none,.mv (.t 11)⟩,⟨some 70,none,.bin .lss (.t 69) (.c (.d true (.int .i64 0)))⟩] [10,11,70]) (.cond (.t 70) (.seq (.region [⟨some 4,none,.mv (.c (.d true (.bool false)))⟩] [4]) (.ret)) (.skip))) (.seq (.seq (.region [⟨some 71,none,.mv (.t 11)⟩,⟨some 72,none,.mv (.t 10)⟩,⟨some 73,none,.bin .neq (.t 71) (.t 72)⟩] [73]) (.cond (.t 73) (.seq (.region [⟨some 4,none,.mv (.c (.d true (.bool false)))⟩] [4]) (.ret)) (.skip))) (.seq (.region [⟨some 4,none,.mv (.c (.d true (.bool true)))⟩] [4]) (.ret)))))))))))))))))))))))))
theorem ok3 : FnOk Try.prog Try.f3 74 keep3 ac3 [.t 4]:=by
  refine ⟨?_,?_,?_,?_,?_⟩ <;> kernel_rfl

/-! laws.szPolicyS -/
def keep4 : Nat → List Nat
  | 0 => [0,1]
  | 1 => [0,1]
  | 2 => [0,1,11]
  | 3 => [4]
  | 4 => [0,1,5]
  | 5 => [0,1,5,15]
  | 6 => [0,1,5]
  | 7 => [0,1,5]
  | 8 => [0,1,5,25]
  | 9 => [4]
  | 10 => [4]
  | _ => []
def ac4 : AC:=.seq (.region [⟨some 4,none,.mv (.c (.d true (.int .i64 0)))⟩] [0,1]) (.seq (.region [⟨some 6,none,.mv (.t 1)⟩,⟨some 7,none,.mv (.t 0)⟩,⟨some 8,none,.len (.t 7)⟩,⟨some 9,none,.bin .sub (.t 6) (.t 8)⟩,⟨some 1,none,.mv (.t 9)⟩] [0,1]) (.seq (.seq (.region [⟨some 10,none,.mv (.t 1)⟩,⟨some 11,none,.bin .lss (.t 10) (.c (.d true (.int .i64 0)))⟩] [0,1,11]) (.cond (.t 11) (.seq (.region [⟨some 4,none,.mv (.c (.d true (.int .i64 (-1))))⟩] [4]) (.ret)) (.skip))) (.seq (.seq (.region [⟨some 5,none,.mv (.c (.d true (.int .i64 0)))⟩] [0,1,5]) (.block 0 (.loop (.seq (.seq (.region [⟨some 12,none,.mv (.t 5)⟩,⟨some 13,none,.mv (.t 0)⟩,⟨some 14,none,.len (.t 13)⟩,⟨some 15,none,.bin .lss (.t 12) (.t 14)⟩] [0,1,5,15]) (.cond (.t 15) (.skip) (.exit 0))) (.seq (.block 1 (.seq (.region [⟨some 18,none,.mv (.t 0)⟩,⟨some 19,none,.mv (.t 5)⟩,⟨some 20,none,.ia 4 (.t 18) (.t 19)⟩,⟨some 21,none,.ld (some 4) (.t 20)⟩,⟨some 22,none,.mv (.t 1)⟩,⟨some 23,none,.call (.c (.fn 11 [])) [.t 21,.t 22]⟩,⟨some 1,none,.mv (.t 23)⟩] [0,1,5]) (.seq (.region [⟨some 24,none,.mv (.t 1)⟩,⟨some 25,none,.bin .lss (.t 24) (.c (.d true (.int .i64 0)))⟩] [0,1,5,25]) (.cond (.t 25) (.seq (.region [⟨some 4,none,.mv (.c (.d true (.int .i64 (-1))))⟩] [4]) (.ret)) (.skip))))) (.region [⟨some 16,none,.mv (.t 5)⟩,⟨some 17,none,.bin .add (.t 16) (.c (.d true (.int .i64 1)))⟩,⟨some 5,none,.mv (.t 17)⟩] [0,1,5])))))) (.seq (.region [⟨some 26,none,.mv (.t 1)⟩,⟨some 4,none,.mv (.t 26)⟩] [4]) (.ret)))))
theorem ok4 : FnOk Try.prog Try.f4 27 keep4 ac4 [.t 4]:=by
  refine ⟨?_,?_,?_,?_,?_⟩ <;> kernel_rfl

/-! spec.CacheDrop -/
def keep5 : Nat → List Nat
  | 0 => [0,1]
  | 1 => [0,1,5]
  | 2 => [0,1,5,6]
  | 3 => [0,1,5,6,11]
  | 4 => [0,1,5,6]
  | 5 => [0,1,5,6,20]
  | 6 => [0,1,5,6]
  | 7 => [4]
  | _ => []
def ac5 : AC:=.seq (.region [⟨some 4,none,.own 34 4⟩] [0,1]) (.seq (.region [⟨some 7,none,.bs 34 4 []⟩,⟨some 5,none,.mv (.t 7)⟩] [0,1,5]) (.seq (.seq (.region [⟨some 6,none,.mv (.c (.d true (.int .i64 0)))⟩] [0,1,5,6]) (.block 0 (.loop (.seq (.seq (.region [⟨some 8,none,.mv (.t 6)⟩,⟨some 9,none,.mv (.t 0)⟩,⟨some 10,none,.len (.t 9)⟩,⟨some 11,none,.bin .lss (.t 8) (.t 10)⟩] [0,1,5,6,11]) (.cond (.t 11) (.skip) (.exit 0))) (.seq (.block 1 (.seq (.region [⟨some 14,none,.mv (.t 0)⟩,⟨some 15,none,.mv (.t 6)⟩,⟨some 16,none,.ia 4 (.t 14) (.t 15)⟩,⟨some 17,none,.fa 3 (.t 16)⟩,⟨some 18,none,.ld none (.t 17)⟩,⟨some 19,none,.mv (.t 1)⟩,⟨some 20,none,.bin .geq (.t 18) (.t 19)⟩] [0,1,5,6,20]) (.cond (.t 20) (.region [⟨some 21,none,.mv (.t 5)⟩,⟨some 22,none,.mv (.t 0)⟩,⟨some 23,none,.mv (.t 6)⟩,⟨some 24,none,.ia 4 (.t 22) (.t 23)⟩,⟨some 25,none,.ld (some 4) (.t 24)⟩,⟨some 26,none,.call (.c (.fn 12 [])) [.t 25]⟩,⟨some 27,none,.bs 34 4 [.t 26]⟩,⟨some 28,none,.app 34 4 56 (.t 21) (.t 27)⟩,⟨some 5,none,.mv (.t 28)⟩] [0,1,5,6]) (.skip)))) (.region [⟨some 12,none,.mv (.t 6)⟩,⟨some 13,none,.bin .add (.t 12) (.c (.d true (.int .i64 1)))⟩,⟨some 6,none,.mv (.t 13)⟩] [0,1,5,6])))))) (.seq (.region [⟨some 29,none,.mv (.t 5)⟩,⟨some 4,none,.mv (.t 29)⟩] [4]) (.ret))))
theorem ok5 : FnOk Try.prog Try.f5 30 keep5 ac5 [.t 4]:=by
  refine ⟨?_,?_,?_,?_,?_⟩ <;> kernel_rfl

/-! laws.toPolicyS -/
def keep6 : Nat → List Nat
  | 0 => [0]
  | 1 => [0,3]
  | 2 => [0,3,4]
  | 3 => [0,3,4,11]
  | 4 => [0,3,4]
  | 5 => [0,3,4]
  | 6 => [2]
  | _ => []
def ac6 : AC:=.seq (.region [⟨some 2,none,.own 34 4⟩] [0]) (.seq (.region [⟨some 5,none,.mv (.t 0)⟩,⟨some 6,none,.len (.t 5)⟩,⟨some 7,none,.mks 34 4 56 [.d true (.str ⟨#[]⟩),.d true (.int .i64 0),.nil,.d true (.int .i64 0)] (.t 6) (.t 6)⟩,⟨some 3,none,.mv (.t 7)⟩] [0,3]) (.seq (.seq (.region [⟨some 4,none,.mv (.c (.d true (.int .i64 0)))⟩] [0,3,4]) (.block 0 (.loop (.seq (.seq (.region [⟨some 8,none,.mv (.t 4)⟩,⟨some 9,none,.mv (.t 0)⟩,⟨some 10,none,.len (.t 9)⟩,⟨some 11,none,.bin .lss (.t 8) (.t 10)⟩] [0,3,4,11]) (.cond (.t 11) (.skip) (.exit 0))) (.seq (.block 1 (.region [⟨some 14,none,.mv (.t 3)⟩,⟨some 15,none,.mv (.t 4)⟩,⟨some 16,none,.mv (.t 0)⟩,⟨some 17,none,.mv (.t 4)⟩,⟨some 18,none,.ia 4 (.t 16) (.t 17)⟩,⟨some 19,none,.ld (some 4) (.t 18)⟩,⟨some 20,none,.call (.c (.fn 13 [])) [.t 19]⟩,⟨some 21,none,.ia 4 (.t 14) (.t 15)⟩,⟨none,none,.st 4 (.t 21) (.t 20)⟩] [0,3,4])) (.region [⟨some 12,none,.mv (.t 4)⟩,⟨some 13,none,.bin .add (.t 12) (.c (.d true (.int .i64 1)))⟩,⟨some 4,none,.mv (.t 13)⟩] [0,3,4])))))) (.seq (.region [⟨some 22,none,.mv (.t 3)⟩,⟨some 2,none,.mv (.t 22)⟩] [2]) (.ret))))
theorem ok6 : FnOk Try.prog Try.f6 23 keep6 ac6 [.t 2]:=by
  refine ⟨?_,?_,?_,?_,?_⟩ <;> kernel_rfl

/-! impl.CacheDrop -/
/-! laws.eqPolicyS -/
def keep8 : Nat → List Nat
  | 0 => [0,1]
  | 1 => [0,1,10]
  | 2 => [4]
  | 3 => [0,1,5]
  | 4 => [0,1,5,14]
  | 5 => [0,1,5]
  | 6 => [0,1,5,26]
  | 7 => [4]
  | 8 => [4]
  | _ => []
def ac8 : AC:=.seq (.region [⟨some 4,none,.mv (.c (.d true (.bool false)))⟩] [0,1]) (.seq (.seq (.region [⟨some 6,none,.mv (.t 0)⟩,⟨some 7,none,.len (.t 6)⟩,⟨some 8,none,.mv (.t 1)⟩,⟨some 9,none,.len (.t 8)⟩,⟨some 10,none,.bin .neq (.t 7) (.t 9)⟩] [0,1,10]) (.cond (.t 10) (.seq (.region [⟨some 4,none,.mv (.c (.d true (.bool false)))⟩] [4]) (.ret)) (.skip))) (.seq (.seq (.region [⟨some 5,none,.mv (.c (.d true (.int .i64 0)))⟩] [0,1,5]) (.block 0 (.loop (.seq (.seq (.region [⟨some 11,none,.mv (.t 5)⟩,⟨some 12,none,.mv (.t 0)⟩,⟨some 13,none,.len (.t 12)⟩,⟨some 14,none,.bin .lss (.t 11) (.t 13)⟩] [0,1,5,14]) (.cond (.t 14) (.skip) (.exit 0))) (.seq (.block 1 (.seq (.draw [⟨some 17,none,.mv (.t 0)⟩,⟨some 18,none,.mv (.t 5)⟩,⟨some 19,none,.ia 4 (.t 17) (.t 18)⟩,⟨some 20,none,.ld (some 4) (.t 19)⟩,⟨some 21,none,.mv (.t 1)⟩,⟨some 22,none,.mv (.t 5)⟩,⟨some 23,none,.ia 4 (.t 21) (.t 22)⟩,⟨some 24,none,.ld (some 4) (.t 23)⟩,⟨some 25,none,.call (.c (.fn 17 [])) [.t 20,.t 24]⟩,⟨some 26,none,.not (.t 25)⟩] [0,1,5,26]) (.cond (.t 26) (.seq (.region [⟨some 4,none,.mv (.c (.d true (.bool false)))⟩] [4]) (.ret)) (.skip)))) (.region [⟨some 15,none,.mv (.t 5)⟩,⟨some 16,none,.bin .add (.t 15) (.c (.d true (.int .i64 1)))⟩,⟨some 5,none,.mv (.t 16)⟩] [0,1,5])))))) (.seq (.region [⟨some 4,none,.mv (.c (.d true (.bool true)))⟩] [4]) (.ret))))
theorem ok8 : FnOk Try.prog Try.f8 27 keep8 ac8 [.t 4]:=by
  refine ⟨?_,?_,?_,?_,?_⟩ <;> kernel_rfl

/-! laws.markPolicyS -/
/-! laws.heldPolicyS -/
def keep10 : Nat → List Nat
  | 0 => [0,1]
  | 1 => [0,1,5]
  | 2 => [0,1,5,9]
  | 3 => [0,1,5]
  | 4 => [0,1,5,19]
  | 5 => [4]
  | 6 => [0,1,5]
  | 7 => [0,1,5,28]
  | 8 => [4]
  | 9 => [0,1,5]
  | 10 => [0,1,5]
  | 11 => [0,1,5,39]
  | 12 => [4]
  | 13 => [0,1,5,46]
  | 14 => [4]
  | 15 => [0,1,5]
  | 16 => [4]
  | _ => []
def ac10 : AC:=.seq (.region [⟨some 4,none,.mv (.c (.d true (.int .i64 0)))⟩] [0,1]) (.seq (.seq (.region [⟨some 5,none,.mv (.c (.d true (.int .i64 0)))⟩] [0,1,5]) (.block 0 (.loop (.seq (.seq (.region [⟨some 6,none,.mv (.t 5)⟩,⟨some 7,none,.mv (.t 0)⟩,⟨some 8,none,.len (.t 7)⟩,⟨some 9,none,.bin .lss (.t 6) (.t 8)⟩] [0,1,5,9]) (.cond (.t 9) (.skip) (.exit 0))) (.seq (.block 1 (.seq (.seq (.draw [⟨some 12,none,.mv (.t 0)⟩,⟨some 13,none,.mv (.t 5)⟩,⟨some 14,none,.ia 4 (.t 12) (.t 13)⟩,⟨some 15,none,.fa 0 (.t 14)⟩,⟨some 16,none,.ld none (.t 15)⟩,⟨some 17,none,.mv (.t 1)⟩,⟨some 18,none,.call (.c (.fn 18 [])) [.t 17]⟩,⟨some 19,none,.bin .neq (.t 16) (.t 18)⟩] [0,1,5,19]) (.cond (.t 19) (.seq (.region [⟨some 4,none,.mv (.c (.d true (.int .i64 (-1))))⟩] [4]) (.ret)) (.skip))) (.seq (.region [⟨some 20,none,.mv (.t 1)⟩,⟨some 21,none,.bin .add (.t 20) (.c (.d true (.int .i64 1)))⟩,⟨some 1,none,.mv (.t 21)⟩] [0,1,5]) (.seq (.seq (.region [⟨some 22,none,.mv (.t 0)⟩,⟨some 23,none,.mv (.t 5)⟩,⟨some 24,none,.ia 4 (.t 22) (.t 23)⟩,⟨some 25,none,.fa 1 (.t 24)⟩,⟨some 26,none,.ld none (.t 25)⟩,⟨some 27,none,.mv (.t 1)⟩,⟨some 28,none,.bin .neq (.t 26) (.t 27)⟩] [0,1,5,28]) (.cond (.t 28) (.seq (.region [⟨some 4,none,.mv (.c (.d true (.int .i64 (-1))))⟩] [4]) (.ret)) (.skip))) (.seq (.region [⟨some 29,none,.mv (.t 1)⟩,⟨some 30,none,.bin .add (.t 29) (.c (.d true (.int .i64 1)))⟩,⟨some 1,none,.mv (.t 30)⟩] [0,1,5]) (.seq (.region [⟨some 31,none,.mv (.t 0)⟩,⟨some 32,none,.mv (.t 5)⟩,⟨some 33,none,.ia 4 (.t 31) (.t 32)⟩,⟨some 34,none,.fa 2 (.t 33)⟩,⟨some 35,none,.ld none (.t 34)⟩,⟨some 36,none,.mv (.t 1)⟩,⟨some 37,none,.call (.c (.fn 20 [])) [.t 35,.t 36]⟩,⟨some 1,none,.mv (.t 37)⟩] [0,1,5]) (.seq (.seq (.region [⟨some 38,none,.mv (.t 1)⟩,⟨some 39,none,.bin .lss (.t 38) (.c (.d true (.int .i64 0)))⟩] [0,1,5,39]) (.cond (.t 39) (.seq (.region [⟨some 4,none,.mv (.c (.d true (.int .i64 (-1))))⟩] [4]) (.ret)) (.skip))) (.seq (.seq (.region [⟨some 40,none,.mv (.t 0)⟩,⟨some 41,none,.mv (.t 5)⟩,⟨some 42,none,.ia 4 (.t 40) (.t 41)⟩,⟨some 43,none,.fa 3 (.t 42)⟩,⟨some 44,none,.ld none (.t 43)⟩,⟨some 45,none,.mv (.t 1)⟩,⟨some 46,none,.bin .neq (.t 44) (.t 45)⟩] [0,1,5,46]) (.cond (.t 46) (.seq (.region [⟨some 4,none,.mv (.c (.d true (.int .i64 (-1))))⟩] [4]) (.ret)) (.skip))) (.region [⟨some 47,none,.mv (.t 1)⟩,⟨some 48,none,.bin .add (.t 47) (.c (.d true (.int .i64 1)))⟩,⟨some 1,none,.mv (.t 48)⟩] [0,1,5]))))))))) (.region [⟨some 10,none,.mv (.t 5)⟩,⟨some 11,none,.bin .add (.t 10) (.c (.d true (.int .i64 1)))⟩,⟨some 5,none,.mv (.t 11)⟩] [0,1,5])))))) (.seq (.region [⟨some 49,none,.mv (.t 1)⟩,⟨some 4,none,.mv (.t 49)⟩] [4]) (.ret)))
theorem ok10 : FnOk Try.prog Try.f10 50 keep10 ac10 [.t 4]:=by
  refine ⟨?_,?_,?_,?_,?_⟩ <;> kernel_rfl

/-! laws.szPolicy -/
def keep11 : Nat → List Nat
  | 0 => [1,2]
  | 1 => [1,2]
  | 2 => [1,2,11]
  | 3 => [4]
  | 4 => [1]
  | 5 => [1,17]
  | 6 => [4]
  | 7 => [4]
  | _ => []
def ac11 : AC:=.seq (.region [⟨some 2,none,.box (.t 0)⟩,⟨some 4,none,.mv (.c (.d true (.int .i64 0)))⟩] [1,2]) (.seq (.region [⟨some 5,none,.mv (.t 1)⟩,⟨some 6,none,.fa 0 (.t 2)⟩,⟨some 7,none,.ld none (.t 6)⟩,⟨some 8,none,.slen (.t 7)⟩,⟨some 9,none,.bin .sub (.t 5) (.t 8)⟩,⟨some 1,none,.mv (.t 9)⟩] [1,2]) (.seq (.seq (.region [⟨some 10,none,.mv (.t 1)⟩,⟨some 11,none,.bin .lss (.t 10) (.c (.d true (.int .i64 0)))⟩] [1,2,11]) (.cond (.t 11) (.seq (.region [⟨some 4,none,.mv (.c (.d true (.int .i64 (-1))))⟩] [4]) (.ret)) (.skip))) (.seq (.region [⟨some 12,none,.fa 2 (.t 2)⟩,⟨some 13,none,.ld none (.t 12)⟩,⟨some 14,none,.mv (.t 1)⟩,⟨some 15,none,.call (.c (.fn 21 [])) [.t 13,.t 14]⟩,⟨some 1,none,.mv (.t 15)⟩] [1]) (.seq (.seq (.region [⟨some 16,none,.mv (.t 1)⟩,⟨some 17,none,.bin .lss (.t 16) (.c (.d true (.int .i64 0)))⟩] [1,17]) (.cond (.t 17) (.seq (.region [⟨some 4,none,.mv (.c (.d true (.int .i64 (-1))))⟩] [4]) (.ret)) (.skip))) (.seq (.region [⟨some 18,none,.mv (.t 1)⟩,⟨some 4,none,.mv (.t 18)⟩] [4]) (.ret))))))
theorem ok11 : FnOk Try.prog Try.f11 19 keep11 ac11 [.t 4]:=by
  refine ⟨?_,?_,?_,?_,?_⟩ <;> kernel_rfl

/-! spec.l7Copy -/
def keep12 : Nat → List Nat
  | 0 => [1,2]
  | 1 => [1,2]
  | 2 => [2]
  | _ => []
def ac12 : AC:=.seq (.region [⟨some 1,none,.box (.t 0)⟩,⟨some 2,none,.alloc [.d true (.str ⟨#[]⟩),.d true (.int .i64 0),.nil,.d true (.int .i64 0)]⟩] [1,2]) (.seq (.region [⟨some 3,none,.bs 9 1 []⟩,⟨some 4,none,.fa 2 (.t 1)⟩,⟨some 5,none,.ld none (.t 4)⟩,⟨some 6,none,.app 9 1 16 (.t 3) (.t 5)⟩,⟨some 7,none,.fa 2 (.t 1)⟩,⟨none,none,.st 1 (.t 7) (.t 6)⟩] [1,2]) (.seq (.region [⟨some 8,none,.ld (some 4) (.t 1)⟩,⟨none,none,.st 4 (.t 2) (.t 8)⟩] [2]) (.ret)))
theorem ok12 : FnOk Try.prog Try.f12 9 keep12 ac12 [.c 2 (some 4)]:=by
  refine ⟨?_,?_,?_,?_,?_⟩ <;> kernel_rfl

/-! laws.toPolicy -/
def keep13 : Nat → List Nat
  | 0 => [1,2]
  | 1 => [1,2,3]
  | 2 => [1,2,3]
  | 3 => [1,2,3]
  | 4 => [1,2,3]
  | 5 => [2,3]
  | 6 => [2]
  | _ => []
def ac13 : AC:=.seq (.region [⟨some 1,none,.box (.t 0)⟩,⟨some 2,none,.alloc [.d true (.str ⟨#[]⟩),.d true (.int .i64 0),.nil,.d true (.int .i64 0)]⟩] [1,2]) (.seq (.region [⟨some 3,none,.alloc [.d true (.str ⟨#[]⟩),.d true (.int .i64 0),.nil,.d true (.int .i64 0)]⟩] [1,2,3]) (.seq (.region [⟨some 4,none,.fa 0 (.t 1)⟩,⟨some 5,none,.ld none (.t 4)⟩,⟨some 6,none,.fa 0 (.t 3)⟩,⟨none,none,.st 1 (.t 6) (.t 5)⟩] [1,2,3]) (.seq (.region [⟨some 7,none,.fa 1 (.t 1)⟩,⟨some 8,none,.ld none (.t 7)⟩,⟨some 9,none,.fa 1 (.t 3)⟩,⟨none,none,.st 1 (.t 9) (.t 8)⟩] [1,2,3]) (.seq (.region [⟨some 10,none,.fa 2 (.t 1)⟩,⟨some 11,none,.ld none (.t 10)⟩,⟨some 12,none,.call (.c (.fn 22 [])) [.t 11]⟩,⟨some 13,none,.fa 2 (.t 3)⟩,⟨none,none,.st 1 (.t 13) (.t 12)⟩] [1,2,3]) (.seq (.region [⟨some 14,none,.fa 3 (.t 1)⟩,⟨some 15,none,.ld none (.t 14)⟩,⟨some 16,none,.fa 3 (.t 3)⟩,⟨none,none,.st 1 (.t 16) (.t 15)⟩] [2,3]) (.seq (.region [⟨some 17,none,.ld (some 4) (.t 3)⟩,⟨none,none,.st 4 (.t 2) (.t 17)⟩] [2]) (.ret)))))))
theorem ok13 : FnOk Try.prog Try.f13 18 keep13 ac13 [.c 2 (some 4)]:=by
  refine ⟨?_,?_,?_,?_,?_⟩ <;> kernel_rfl

/-! slices.DeleteFunc[[]impl.Policy,impl.Policy] -/
/-! impl.cloneCache -/
def keep15 : Nat → List Nat
  | 0 => [0]
  | 1 => [0,3]
  | 2 => [3,6,7,8]
  | 3 => [3,6,7,8,9]
  | 4 => [3,5,6,7,8]
  | 5 => [3,6,7,8]
  | 6 => [3,6,7,8]
  | 7 => [2]
  | _ => []
def ac15 : AC:=.seq (.region [⟨some 2,none,.own 34 4⟩] [0]) (.seq (.region [⟨some 3,none,.own 34 4⟩] [0,3]) (.seq (.seq (.region [⟨some 6,none,.mv (.t 0)⟩,⟨some 7,none,.len (.t 6)⟩,⟨some 8,none,.mv (.c (.d true (.int .i64 0)))⟩] [3,6,7,8]) (.block 0 (.loop (.seq (.region [⟨some 9,none,.bin .lss (.t 8) (.t 7)⟩] [3,6,7,8,9]) (.seq (.cond (.t 9) (.skip) (.exit 0)) (.seq (.block 1 (.seq (.region [⟨some 10,none,.ia 4 (.t 6) (.t 8)⟩,⟨some 11,none,.ld (some 4) (.t 10)⟩,⟨some 5,none,.alloc [.d true (.str ⟨#[]⟩),.d true (.int .i64 0),.nil,.d true (.int .i64 0)]⟩,⟨none,none,.st 4 (.t 5) (.t 11)⟩] [3,5,6,7,8]) (.region [⟨some 12,none,.mv (.t 3)⟩,⟨some 13,none,.ld (some 4) (.t 5)⟩,⟨some 14,none,.call (.c (.fn 24 [])) [.t 13]⟩,⟨some 15,none,.bs 34 4 [.t 14]⟩,⟨some 16,none,.app 34 4 56 (.t 12) (.t 15)⟩,⟨some 3,none,.mv (.t 16)⟩] [3,6,7,8]))) (.region [⟨some 17,none,.bin .add (.t 8) (.c (.d true (.int .i64 1)))⟩,⟨some 8,none,.mv (.t 17)⟩] [3,6,7,8]))))))) (.seq (.region [⟨some 18,none,.mv (.t 3)⟩,⟨some 2,none,.mv (.t 18)⟩] [2]) (.ret))))
theorem ok15 : FnOk Try.prog Try.f15 19 keep15 ac15 [.t 2]:=by
  refine ⟨?_,?_,?_,?_,?_⟩ <;> kernel_rfl

/-! impl.CacheDrop$1 -/
/-! laws.eqPolicy -/
def keep17 : Nat → List Nat
  | 0 => [2,3]
  | 1 => [2,3,9]
  | 2 => [4]
  | 3 => [2,3,14]
  | 4 => [4]
  | 5 => [2,3,20]
  | 6 => [4]
  | 7 => [25]
  | 8 => [4]
  | 9 => [4]
  | _ => []
def ac17 : AC:=.seq (.region [⟨some 2,none,.box (.t 0)⟩,⟨some 3,none,.box (.t 1)⟩,⟨some 4,none,.mv (.c (.d true (.bool false)))⟩] [2,3]) (.seq (.seq (.region [⟨some 5,none,.fa 0 (.t 2)⟩,⟨some 6,none,.ld none (.t 5)⟩,⟨some 7,none,.fa 0 (.t 3)⟩,⟨some 8,none,.ld none (.t 7)⟩,⟨some 9,none,.bin .neq (.t 6) (.t 8)⟩] [2,3,9]) (.cond (.t 9) (.seq (.region [⟨some 4,none,.mv (.c (.d true (.bool false)))⟩] [4]) (.ret)) (.skip))) (.seq (.seq (.region [⟨some 10,none,.fa 1 (.t 2)⟩,⟨some 11,none,.ld none (.t 10)⟩,⟨some 12,none,.fa 1 (.t 3)⟩,⟨some 13,none,.ld none (.t 12)⟩,⟨some 14,none,.bin .neq (.t 11) (.t 13)⟩] [2,3,14]) (.cond (.t 14) (.seq (.region [⟨some 4,none,.mv (.c (.d true (.bool false)))⟩] [4]) (.ret)) (.skip))) (.seq (.seq (.region [⟨some 15,none,.fa 2 (.t 2)⟩,⟨some 16,none,.ld none (.t 15)⟩,⟨some 17,none,.fa 2 (.t 3)⟩,⟨some 18,none,.ld none (.t 17)⟩,⟨some 19,none,.call (.c (.fn 25 [])) [.t 16,.t 18]⟩,⟨some 20,none,.not (.t 19)⟩] [2,3,20]) (.cond (.t 20) (.seq (.region [⟨some 4,none,.mv (.c (.d true (.bool false)))⟩] [4]) (.ret)) (.skip))) (.seq (.seq (.region [⟨some 21,none,.fa 3 (.t 2)⟩,⟨some 22,none,.ld none (.t 21)⟩,⟨some 23,none,.fa 3 (.t 3)⟩,⟨some 24,none,.ld none (.t 23)⟩,⟨some 25,none,.bin .neq (.t 22) (.t 24)⟩] [25]) (.cond (.t 25) (.seq (.region [⟨some 4,none,.mv (.c (.d true (.bool false)))⟩] [4]) (.ret)) (.skip))) (.seq (.region [⟨some 4,none,.mv (.c (.d true (.bool true)))⟩] [4]) (.ret))))))
theorem ok17 : FnOk Try.prog Try.f17 26 keep17 ac17 [.t 4]:=by
  refine ⟨?_,?_,?_,?_,?_⟩ <;> kernel_rfl

/-! laws.markText -/
def keep18 : Nat → List Nat
  | 0 => [0]
  | 1 => [0,5]
  | 2 => [2]
  | 3 => [0,3]
  | 4 => [0,3,7]
  | 5 => [0,3]
  | 6 => [0,3]
  | 7 => [2]
  | _ => []
def ac18 : AC:=.seq (.region [⟨some 2,none,.mv (.c (.d true (.str ⟨#[]⟩)))⟩] [0]) (.seq (.seq (.region [⟨some 4,none,.mv (.t 0)⟩,⟨some 5,none,.bin .leq (.t 4) (.c (.d true (.int .i64 0)))⟩] [0,5]) (.cond (.t 5) (.seq (.region [⟨some 2,none,.mv (.c (.d true (.str ⟨#[109,48]⟩)))⟩] [2]) (.ret)) (.skip))) (.seq (.region [⟨some 3,none,.mv (.c (.d true (.str ⟨#[]⟩)))⟩] [0,3]) (.seq (.block 0 (.loop (.seq (.seq (.region [⟨some 6,none,.mv (.t 0)⟩,⟨some 7,none,.bin .gtr (.t 6) (.c (.d true (.int .i64 0)))⟩] [0,3,7]) (.cond (.t 7) (.skip) (.exit 0))) (.block 1 (.seq (.region [⟨some 8,none,.mv (.t 0)⟩,⟨some 9,none,.bin .rem (.t 8) (.c (.d true (.int .i64 10)))⟩,⟨some 10,none,.bin .add (.c (.d true (.int .i64 48))) (.t 9)⟩,⟨some 11,none,.cvi .u8 (.t 10)⟩,⟨some 12,none,.bs 5 1 [.t 11]⟩,⟨some 13,none,.bstr (.t 12)⟩,⟨some 14,none,.mv (.t 3)⟩,⟨some 15,none,.bin .add (.t 13) (.t 14)⟩,⟨some 3,none,.mv (.t 15)⟩] [0,3]) (.region [⟨some 16,none,.mv (.t 0)⟩,⟨some 17,none,.bin .quo (.t 16) (.c (.d true (.int .i64 10)))⟩,⟨some 0,none,.mv (.t 17)⟩] [0,3])))))) (.seq (.region [⟨some 18,none,.mv (.t 3)⟩,⟨some 19,none,.bin .add (.c (.d true (.str ⟨#[109]⟩))) (.t 18)⟩,⟨some 2,none,.mv (.t 19)⟩] [2]) (.ret)))))
theorem ok18 : FnOk Try.prog Try.f18 20 keep18 ac18 [.t 2]:=by
  refine ⟨?_,?_,?_,?_,?_⟩ <;> kernel_rfl

/-! laws.markStringS -/
/-! laws.heldStringS -/
def keep20 : Nat → List Nat
  | 0 => [0,1]
  | 1 => [0,1,5]
  | 2 => [0,1,5,9]
  | 3 => [0,1,5]
  | 4 => [0,1,5,18]
  | 5 => [4]
  | 6 => [0,1,5]
  | 7 => [4]
  | _ => []
def ac20 : AC:=.seq (.region [⟨some 4,none,.mv (.c (.d true (.int .i64 0)))⟩] [0,1]) (.seq (.seq (.region [⟨some 5,none,.mv (.c (.d true (.int .i64 0)))⟩] [0,1,5]) (.block 0 (.loop (.seq (.seq (.region [⟨some 6,none,.mv (.t 5)⟩,⟨some 7,none,.mv (.t 0)⟩,⟨some 8,none,.len (.t 7)⟩,⟨some 9,none,.bin .lss (.t 6) (.t 8)⟩] [0,1,5,9]) (.cond (.t 9) (.skip) (.exit 0))) (.seq (.block 1 (.seq (.seq (.draw [⟨some 12,none,.mv (.t 0)⟩,⟨some 13,none,.mv (.t 5)⟩,⟨some 14,none,.ia 1 (.t 12) (.t 13)⟩,⟨some 15,none,.ld none (.t 14)⟩,⟨some 16,none,.mv (.t 1)⟩,⟨some 17,none,.call (.c (.fn 18 [])) [.t 16]⟩,⟨some 18,none,.bin .neq (.t 15) (.t 17)⟩] [0,1,5,18]) (.cond (.t 18) (.seq (.region [⟨some 4,none,.mv (.c (.d true (.int .i64 (-1))))⟩] [4]) (.ret)) (.skip))) (.region [⟨some 19,none,.mv (.t 1)⟩,⟨some 20,none,.bin .add (.t 19) (.c (.d true (.int .i64 1)))⟩,⟨some 1,none,.mv (.t 20)⟩] [0,1,5]))) (.region [⟨some 10,none,.mv (.t 5)⟩,⟨some 11,none,.bin .add (.t 10) (.c (.d true (.int .i64 1)))⟩,⟨some 5,none,.mv (.t 11)⟩] [0,1,5])))))) (.seq (.region [⟨some 21,none,.mv (.t 1)⟩,⟨some 4,none,.mv (.t 21)⟩] [4]) (.ret)))
theorem ok20 : FnOk Try.prog Try.f20 22 keep20 ac20 [.t 4]:=by
  refine ⟨?_,?_,?_,?_,?_⟩ <;> kernel_rfl

/-! laws.szStringS -/
def keep21 : Nat → List Nat
  | 0 => [0,1]
  | 1 => [0,1]
  | 2 => [0,1,11]
  | 3 => [4]
  | 4 => [0,1,5]
  | 5 => [0,1,5,15]
  | 6 => [0,1,5]
  | 7 => [0,1,5]
  | 8 => [0,1,5,26]
  | 9 => [4]
  | 10 => [4]
  | _ => []
def ac21 : AC:=.seq (.region [⟨some 4,none,.mv (.c (.d true (.int .i64 0)))⟩] [0,1]) (.seq (.region [⟨some 6,none,.mv (.t 1)⟩,⟨some 7,none,.mv (.t 0)⟩,⟨some 8,none,.len (.t 7)⟩,⟨some 9,none,.bin .sub (.t 6) (.t 8)⟩,⟨some 1,none,.mv (.t 9)⟩] [0,1]) (.seq (.seq (.region [⟨some 10,none,.mv (.t 1)⟩,⟨some 11,none,.bin .lss (.t 10) (.c (.d true (.int .i64 0)))⟩] [0,1,11]) (.cond (.t 11) (.seq (.region [⟨some 4,none,.mv (.c (.d true (.int .i64 (-1))))⟩] [4]) (.ret)) (.skip))) (.seq (.seq (.region [⟨some 5,none,.mv (.c (.d true (.int .i64 0)))⟩] [0,1,5]) (.block 0 (.loop (.seq (.seq (.region [⟨some 12,none,.mv (.t 5)⟩,⟨some 13,none,.mv (.t 0)⟩,⟨some 14,none,.len (.t 13)⟩,⟨some 15,none,.bin .lss (.t 12) (.t 14)⟩] [0,1,5,15]) (.cond (.t 15) (.skip) (.exit 0))) (.seq (.block 1 (.seq (.region [⟨some 18,none,.mv (.t 1)⟩,⟨some 19,none,.mv (.t 0)⟩,⟨some 20,none,.mv (.t 5)⟩,⟨some 21,none,.ia 1 (.t 19) (.t 20)⟩,⟨some 22,none,.ld none (.t 21)⟩,⟨some 23,none,.slen (.t 22)⟩,⟨some 24,none,.bin .sub (.t 18) (.t 23)⟩,⟨some 1,none,.mv (.t 24)⟩] [0,1,5]) (.seq (.region [⟨some 25,none,.mv (.t 1)⟩,⟨some 26,none,.bin .lss (.t 25) (.c (.d true (.int .i64 0)))⟩] [0,1,5,26]) (.cond (.t 26) (.seq (.region [⟨some 4,none,.mv (.c (.d true (.int .i64 (-1))))⟩] [4]) (.ret)) (.skip))))) (.region [⟨some 16,none,.mv (.t 5)⟩,⟨some 17,none,.bin .add (.t 16) (.c (.d true (.int .i64 1)))⟩,⟨some 5,none,.mv (.t 17)⟩] [0,1,5])))))) (.seq (.region [⟨some 27,none,.mv (.t 1)⟩,⟨some 4,none,.mv (.t 27)⟩] [4]) (.ret)))))
theorem ok21 : FnOk Try.prog Try.f21 28 keep21 ac21 [.t 4]:=by
  refine ⟨?_,?_,?_,?_,?_⟩ <;> kernel_rfl

/-! laws.toStringS -/
def keep22 : Nat → List Nat
  | 0 => [0]
  | 1 => [0,3]
  | 2 => [0,3,4]
  | 3 => [0,3,4,11]
  | 4 => [0,3,4]
  | 5 => [0,3,4]
  | 6 => [2]
  | _ => []
def ac22 : AC:=.seq (.region [⟨some 2,none,.own 9 1⟩] [0]) (.seq (.region [⟨some 5,none,.mv (.t 0)⟩,⟨some 6,none,.len (.t 5)⟩,⟨some 7,none,.mks 9 1 16 [.d true (.str ⟨#[]⟩)] (.t 6) (.t 6)⟩,⟨some 3,none,.mv (.t 7)⟩] [0,3]) (.seq (.seq (.region [⟨some 4,none,.mv (.c (.d true (.int .i64 0)))⟩] [0,3,4]) (.block 0 (.loop (.seq (.seq (.region [⟨some 8,none,.mv (.t 4)⟩,⟨some 9,none,.mv (.t 0)⟩,⟨some 10,none,.len (.t 9)⟩,⟨some 11,none,.bin .lss (.t 8) (.t 10)⟩] [0,3,4,11]) (.cond (.t 11) (.skip) (.exit 0))) (.seq (.block 1 (.region [⟨some 14,none,.mv (.t 3)⟩,⟨some 15,none,.mv (.t 4)⟩,⟨some 16,none,.mv (.t 0)⟩,⟨some 17,none,.mv (.t 4)⟩,⟨some 18,none,.ia 1 (.t 16) (.t 17)⟩,⟨some 19,none,.ld none (.t 18)⟩,⟨some 20,none,.ia 1 (.t 14) (.t 15)⟩,⟨none,none,.st 1 (.t 20) (.t 19)⟩] [0,3,4])) (.region [⟨some 12,none,.mv (.t 4)⟩,⟨some 13,none,.bin .add (.t 12) (.c (.d true (.int .i64 1)))⟩,⟨some 4,none,.mv (.t 13)⟩] [0,3,4])))))) (.seq (.region [⟨some 21,none,.mv (.t 3)⟩,⟨some 2,none,.mv (.t 21)⟩] [2]) (.ret))))
theorem ok22 : FnOk Try.prog Try.f22 22 keep22 ac22 [.t 2]:=by
  refine ⟨?_,?_,?_,?_,?_⟩ <;> kernel_rfl

/-! slices.IndexFunc[[]impl.Policy,impl.Policy] -/
/-! impl.clonePolicy -/
def keep24 : Nat → List Nat
  | 0 => [1,2]
  | 1 => [1,2]
  | 2 => [2]
  | _ => []
def ac24 : AC:=.seq (.region [⟨some 1,none,.box (.t 0)⟩,⟨some 2,none,.alloc [.d true (.str ⟨#[]⟩),.d true (.int .i64 0),.nil,.d true (.int .i64 0)]⟩] [1,2]) (.seq (.region [⟨some 3,none,.fa 2 (.t 1)⟩,⟨some 4,none,.ld none (.t 3)⟩,⟨some 5,none,.call (.c (.fn 26 [])) [.t 4]⟩,⟨some 6,none,.fa 2 (.t 1)⟩,⟨none,none,.st 1 (.t 6) (.t 5)⟩] [1,2]) (.seq (.region [⟨some 7,none,.ld (some 4) (.t 1)⟩,⟨none,none,.st 4 (.t 2) (.t 7)⟩] [2]) (.ret)))
theorem ok24 : FnOk Try.prog Try.f24 8 keep24 ac24 [.c 2 (some 4)]:=by
  refine ⟨?_,?_,?_,?_,?_⟩ <;> kernel_rfl

/-! laws.eqStringS -/
def keep25 : Nat → List Nat
  | 0 => [0,1]
  | 1 => [0,1,10]
  | 2 => [4]
  | 3 => [0,1,5]
  | 4 => [0,1,5,14]
  | 5 => [0,1,5]
  | 6 => [0,1,5,25]
  | 7 => [4]
  | 8 => [4]
  | _ => []
def ac25 : AC:=.seq (.region [⟨some 4,none,.mv (.c (.d true (.bool false)))⟩] [0,1]) (.seq (.seq (.region [⟨some 6,none,.mv (.t 0)⟩,⟨some 7,none,.len (.t 6)⟩,⟨some 8,none,.mv (.t 1)⟩,⟨some 9,none,.len (.t 8)⟩,⟨some 10,none,.bin .neq (.t 7) (.t 9)⟩] [0,1,10]) (.cond (.t 10) (.seq (.region [⟨some 4,none,.mv (.c (.d true (.bool false)))⟩] [4]) (.ret)) (.skip))) (.seq (.seq (.region [⟨some 5,none,.mv (.c (.d true (.int .i64 0)))⟩] [0,1,5]) (.block 0 (.loop (.seq (.seq (.region [⟨some 11,none,.mv (.t 5)⟩,⟨some 12,none,.mv (.t 0)⟩,⟨some 13,none,.len (.t 12)⟩,⟨some 14,none,.bin .lss (.t 11) (.t 13)⟩] [0,1,5,14]) (.cond (.t 14) (.skip) (.exit 0))) (.seq (.block 1 (.seq (.draw [⟨some 17,none,.mv (.t 0)⟩,⟨some 18,none,.mv (.t 5)⟩,⟨some 19,none,.ia 1 (.t 17) (.t 18)⟩,⟨some 20,none,.ld none (.t 19)⟩,⟨some 21,none,.mv (.t 1)⟩,⟨some 22,none,.mv (.t 5)⟩,⟨some 23,none,.ia 1 (.t 21) (.t 22)⟩,⟨some 24,none,.ld none (.t 23)⟩,⟨some 25,none,.bin .neq (.t 20) (.t 24)⟩] [0,1,5,25]) (.cond (.t 25) (.seq (.region [⟨some 4,none,.mv (.c (.d true (.bool false)))⟩] [4]) (.ret)) (.skip)))) (.region [⟨some 15,none,.mv (.t 5)⟩,⟨some 16,none,.bin .add (.t 15) (.c (.d true (.int .i64 1)))⟩,⟨some 5,none,.mv (.t 16)⟩] [0,1,5])))))) (.seq (.region [⟨some 4,none,.mv (.c (.d true (.bool true)))⟩] [4]) (.ret))))
theorem ok25 : FnOk Try.prog Try.f25 26 keep25 ac25 [.t 4]:=by
  refine ⟨?_,?_,?_,?_,?_⟩ <;> kernel_rfl

/-! slices.Clone[[]string,string] -/
end Go.Proofs.Ytockalkgjoaicaa
