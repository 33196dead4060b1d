/- Functions, as code over abstract states. -/
import Derived.Test.YtlddcimpdkcgeaaGreatDoorS12
import Derived.Test.YtlddcimpdkcgeaaGreatDoorProg
set_option linter.unusedVariables false
set_option linter.unusedSimpArgs false
set_option maxRecDepth 100000
namespace Go.Proofs.YtlddcimpdkcgeaaGreatDoor
open Go.RowKit Sym
theorem mo : Tryz.prog.follows .mixedOrders = true:=by kernel_rfl
def keep3 : Nat → List Nat
  | 0 => [1,2,3]
  | 1 => [1,2,3,20]
  | 2 => [6]
  | 3 => [1,2,3,7]
  | 4 => [1,2,3,7]
  | 5 => [1,2,3,25]
  | 6 => [6]
  | 7 => [1,2,3,8,9]
  | 8 => [1,2,3,8,9,10]
  | 9 => [1,2,3,8,9,10,11,12]
  | 10 => [1,2,3,8,9,10,11,12,51]
  | 11 => [6]
  | 12 => [1,2,3,8,9,10,11,12,56]
  | 13 => [6]
  | 14 => [1,2,3,8,9,10,11,12,13]
  | 15 => [1,2,3,8,9,11,12,13]
  | 16 => [1,2,3,8,9,11,72]
  | 17 => [6]
  | 18 => [1,2,3,8,9,11,14]
  | 19 => [1,2,3,8,9,11,14]
  | 20 => [1,2,3,8,9,11,14,15]
  | 21 => [1,2,3,8,9,11,14,15]
  | 22 => [1,2,3,8,9,11,14,15,80]
  | 23 => [6]
  | 24 => [1,2,3,8,9,11,14,83]
  | 25 => [6]
  | 26 => [8,9,11,14,16,17]
  | 27 => [11,14,100]
  | 28 => [6]
  | 29 => [11,14,15]
  | 30 => [14,15]
  | 31 => [14,15,105]
  | 32 => [6]
  | 33 => [108]
  | 34 => [6]
  | 35 => [6]
  | 1000012 => [1]
  | _ => []
def ac3 : AC:=.seq (.region [⟨some 3,none,.box (.t 0)⟩,⟨some 6,none,.mv (.c (.d true (.bool false)))⟩] [1,2,3]) (.seq (.seq (.region [⟨some 18,none,.mv (.t 1)⟩,⟨some 19,none,.slen (.t 18)⟩,⟨some 20,none,.bin .gtr (.t 19) (.c (.d true (.int .i64 1048576)))⟩] [1,2,3,20]) (.cond (.t 20) (.seq (.region [⟨some 6,none,.mv (.c (.d true (.bool true)))⟩] [6]) (.ret)) (.skip))) (.seq (.region [⟨some 7,none,.mv (.c (.d true (.int .i64 1048576)))⟩] [1,2,3,7]) (.seq (.region [⟨some 21,none,.ld (some 4) (.t 3)⟩,⟨some 22,none,.mv (.t 7)⟩,⟨some 23,none,.call (.c (.fn 6 [])) [.t 21,.t 22]⟩,⟨some 7,none,.mv (.t 23)⟩] [1,2,3,7]) (.seq (.seq (.region [⟨some 24,none,.mv (.t 7)⟩,⟨some 25,none,.bin .lss (.t 24) (.c (.d true (.int .i64 0)))⟩] [1,2,3,25]) (.cond (.t 25) (.seq (.region [⟨some 6,none,.mv (.c (.d true (.bool true)))⟩] [6]) (.ret)) (.skip))) (.seq (.region [⟨some 27,none,.ld (some 4) (.t 3)⟩,⟨some 28,none,.call (.c (.fn 8 [])) [.t 27]⟩,⟨some 29,none,.mv (.t 1)⟩,⟨some 30,none,.mv (.t 2)⟩,⟨some 31,none,.call (.c (.fn 7 [])) [.t 28,.t 29,.t 30]⟩,⟨some 26,none,.mv (.t 31)⟩,⟨some 32,none,.ext (.t 26) 0⟩,⟨some 33,none,.ext (.t 26) 1⟩,⟨some 8,none,.alloc [.d true (.int .i64 0),.d true (.int .i64 0),.d true (.str ⟨#[]⟩),.nil]⟩,⟨none,none,.st 4 (.t 8) (.t 32)⟩,⟨some 9,none,.mv (.t 33)⟩] [1,2,3,8,9]) (.seq (.region [⟨some 34,none,.ld (some 4) (.t 3)⟩,⟨some 35,none,.call (.c (.fn 8 [])) [.t 34]⟩,⟨some 10,none,.alloc [.d true (.int .i64 0),.d true (.int .i64 0),.d true (.str ⟨#[]⟩),.nil]⟩,⟨none,none,.st 4 (.t 10) (.t 35)⟩] [1,2,3,8,9,10]) (.seq (.region [⟨some 37,none,.ld (some 4) (.t 10)⟩,⟨some 38,none,.mv (.t 1)⟩,⟨some 39,none,.mv (.t 2)⟩,⟨some 40,none,.call (.c (.fn 9 [])) [.t 37,.t 38,.t 39]⟩,⟨some 36,none,.mv (.t 40)⟩,⟨some 41,none,.ext (.t 36) 0⟩,⟨some 42,none,.ext (.t 36) 1⟩,⟨some 11,none,.alloc [.d true (.int .i64 0),.d true (.int .i64 0),.d true (.str ⟨#[]⟩),.nil]⟩,⟨none,none,.st 4 (.t 11) (.t 41)⟩,⟨some 12,none,.mv (.t 42)⟩] [1,2,3,8,9,10,11,12]) (.seq (.seq (.region [⟨some 43,none,.ld (some 4) (.t 11)⟩,⟨some 44,none,.ld (some 4) (.t 8)⟩,⟨some 45,none,.call (.c (.fn 10 [])) [.t 43,.t 44]⟩,⟨some 46,none,.not (.t 45)⟩,⟨some 47,none,.mv (.t 46)⟩,⟨some 48,some (47,false),.mv (.t 12)⟩,⟨some 49,some (47,false),.mv (.t 9)⟩,⟨some 50,some (47,false),.beq true (.t 48) (.t 49)⟩,⟨some 51,none,.pick (.t 47) (.c (.d true (.bool true))) (.t 50)⟩] [1,2,3,8,9,10,11,12,51]) (.cond (.t 51) (.seq (.region [⟨some 6,none,.mv (.c (.d true (.bool false)))⟩] [6]) (.ret)) (.skip))) (.seq (.seq (.tree (.take ⟨some 52,none,.ld (some 4) (.t 10)⟩ (.take ⟨some 53,none,.ld (some 4) (.t 3)⟩ (.br (.cons ⟨some 54,none,.call (.c (.fn 8 [])) [.t 53]⟩ (.br (.cons ⟨some 55,none,.call (.c (.fn 10 [])) [.t 52,.t 54]⟩ (.take ⟨some 56,none,.not (.t 55)⟩ (.done)) (.nil))) (.nil))))) [1,2,3,8,9,10,11,12,56]) (.cond (.t 56) (.seq (.region [⟨some 6,none,.mv (.c (.d true (.bool false)))⟩] [6]) (.ret)) (.skip))) (.seq (.region [⟨some 13,none,.mv (.c (.d true (.int .i64 1)))⟩] [1,2,3,8,9,10,11,12,13]) (.seq (.region [⟨some 57,none,.ld (some 4) (.t 10)⟩,⟨some 58,none,.mv (.t 13)⟩,⟨some 59,none,.call (.c (.fn 11 [])) [.t 57,.t 58]⟩,⟨some 13,none,.mv (.t 59)⟩] [1,2,3,8,9,11,12,13]) (.seq (.seq (.region [⟨some 60,none,.mv (.t 13)⟩,⟨some 61,none,.bin .lss (.t 60) (.c (.d true (.int .i64 0)))⟩,⟨some 62,none,.mv (.t 61)⟩,⟨some 63,some (62,false),.ld (some 4) (.t 11)⟩,⟨some 64,some (62,false),.ld (some 4) (.t 8)⟩,⟨some 65,some (62,false),.call (.c (.fn 10 [])) [.t 63,.t 64]⟩,⟨some 66,some (62,false),.not (.t 65)⟩,⟨some 67,none,.pick (.t 62) (.c (.d true (.bool true))) (.t 66)⟩,⟨some 68,none,.mv (.t 67)⟩,⟨some 69,some (68,false),.mv (.t 12)⟩,⟨some 70,some (68,false),.mv (.t 9)⟩,⟨some 71,some (68,false),.beq true (.t 69) (.t 70)⟩,⟨some 72,none,.pick (.t 68) (.c (.d true (.bool true))) (.t 71)⟩] [1,2,3,8,9,11,72]) (.cond (.t 72) (.seq (.region [⟨some 6,none,.mv (.c (.d true (.bool false)))⟩] [6]) (.ret)) (.skip))) (.seq (.region [⟨some 14,none,.mv (.c (.d true (.int .i64 1)))⟩] [1,2,3,8,9,11,14]) (.seq (.region [⟨some 73,none,.ld (some 4) (.t 11)⟩,⟨some 74,none,.mv (.t 14)⟩,⟨some 75,none,.call (.c (.fn 11 [])) [.t 73,.t 74]⟩,⟨some 14,none,.mv (.t 75)⟩] [1,2,3,8,9,11,14]) (.seq (.region [⟨some 15,none,.mv (.c (.d true (.int .i64 1)))⟩] [1,2,3,8,9,11,14,15]) (.seq (.region [⟨some 76,none,.ld (some 4) (.t 11)⟩,⟨some 77,none,.mv (.t 15)⟩,⟨some 78,none,.call (.c (.fn 12 [])) [.t 76,.t 77]⟩,⟨some 15,none,.mv (.t 78)⟩] [1,2,3,8,9,11,14,15]) (.seq (.seq (.region [⟨some 79,none,.mv (.t 15)⟩,⟨some 80,none,.bin .lss (.t 79) (.c (.d true (.int .i64 0)))⟩] [1,2,3,8,9,11,14,15,80]) (.cond (.t 80) (.seq (.region [⟨some 6,none,.mv (.c (.d true (.bool false)))⟩] [6]) (.ret)) (.skip))) (.seq (.seq (.region [⟨some 81,none,.mv (.t 15)⟩,⟨some 82,none,.mv (.t 14)⟩,⟨some 83,none,.bin .neq (.t 81) (.t 82)⟩] [1,2,3,8,9,11,14,83]) (.cond (.t 83) (.seq (.region [⟨some 6,none,.mv (.c (.d true (.bool false)))⟩] [6]) (.ret)) (.skip))) (.seq (.region [⟨some 85,none,.ld (some 4) (.t 3)⟩,⟨some 86,none,.call (.c (.fn 8 [])) [.t 85]⟩,⟨some 87,none,.mv (.t 1)⟩,⟨some 88,none,.mv (.t 2)⟩,⟨some 89,none,.call (.c (.fn 9 [])) [.t 86,.t 87,.t 88]⟩,⟨some 84,none,.mv (.t 89)⟩,⟨some 90,none,.ext (.t 84) 0⟩,⟨some 91,none,.ext (.t 84) 1⟩,⟨some 16,none,.alloc [.d true (.int .i64 0),.d true (.int .i64 0),.d true (.str ⟨#[]⟩),.nil]⟩,⟨none,none,.st 4 (.t 16) (.t 90)⟩,⟨some 17,none,.mv (.t 91)⟩] [8,9,11,14,16,17]) (.seq (.seq (.region [⟨some 92,none,.ld (some 4) (.t 16)⟩,⟨some 93,none,.ld (some 4) (.t 8)⟩,⟨some 94,none,.call (.c (.fn 10 [])) [.t 92,.t 93]⟩,⟨some 95,none,.not (.t 94)⟩,⟨some 96,none,.mv (.t 95)⟩,⟨some 97,some (96,false),.mv (.t 17)⟩,⟨some 98,some (96,false),.mv (.t 9)⟩,⟨some 99,some (96,false),.beq true (.t 97) (.t 98)⟩,⟨some 100,none,.pick (.t 96) (.c (.d true (.bool true))) (.t 99)⟩] [11,14,100]) (.cond (.t 100) (.seq (.region [⟨some 6,none,.mv (.c (.d true (.bool false)))⟩] [6]) (.ret)) (.skip))) (.seq (.region [⟨some 15,none,.mv (.c (.d true (.int .i64 1)))⟩] [11,14,15]) (.seq (.region [⟨some 101,none,.ld (some 4) (.t 11)⟩,⟨some 102,none,.mv (.t 15)⟩,⟨some 103,none,.call (.c (.fn 12 [])) [.t 101,.t 102]⟩,⟨some 15,none,.mv (.t 103)⟩] [14,15]) (.seq (.seq (.region [⟨some 104,none,.mv (.t 15)⟩,⟨some 105,none,.bin .lss (.t 104) (.c (.d true (.int .i64 0)))⟩] [14,15,105]) (.cond (.t 105) (.seq (.region [⟨some 6,none,.mv (.c (.d true (.bool false)))⟩] [6]) (.ret)) (.skip))) (.seq (.seq (.region [⟨some 106,none,.mv (.t 15)⟩,⟨some 107,none,.mv (.t 14)⟩,⟨some 108,none,.bin .neq (.t 106) (.t 107)⟩] [108]) (.cond (.t 108) (.seq (.region [⟨some 6,none,.mv (.c (.d true (.bool false)))⟩] [6]) (.ret)) (.skip))) (.seq (.region [⟨some 6,none,.mv (.c (.d true (.bool true)))⟩] [6]) (.ret))))))))))))))))))))))))))
theorem ok3 : FnOk Tryz.prog Tryz.f3 109 keep3 ac3 [.t 6]:=by
  refine ⟨?_,?_,?_,?_,?_⟩ <;> kernel_rfl
def keep6 : Nat → List Nat
  | 0 => [1,2]
  | 1 => [1,2]
  | 2 => [1,2,11]
  | 3 => [4]
  | 4 => [1]
  | 5 => [1,17]
  | 6 => [4]
  | 7 => [4]
  | _ => []
def ac6 : AC:=.seq (.region [⟨some 2,none,.box (.t 0)⟩,⟨some 4,none,.mv (.c (.d true (.int .i64 0)))⟩] [1,2]) (.seq (.region [⟨some 5,none,.mv (.t 1)⟩,⟨some 6,none,.fa 2 (.t 2)⟩,⟨some 7,none,.ld none (.t 6)⟩,⟨some 8,none,.slen (.t 7)⟩,⟨some 9,none,.bin .sub (.t 5) (.t 8)⟩,⟨some 1,none,.mv (.t 9)⟩] [1,2]) (.seq (.seq (.region [⟨some 10,none,.mv (.t 1)⟩,⟨some 11,none,.bin .lss (.t 10) (.c (.d true (.int .i64 0)))⟩] [1,2,11]) (.cond (.t 11) (.seq (.region [⟨some 4,none,.mv (.c (.d true (.int .i64 (-1))))⟩] [4]) (.ret)) (.skip))) (.seq (.region [⟨some 12,none,.fa 3 (.t 2)⟩,⟨some 13,none,.ld none (.t 12)⟩,⟨some 14,none,.mv (.t 1)⟩,⟨some 15,none,.call (.c (.fn 28 [])) [.t 13,.t 14]⟩,⟨some 1,none,.mv (.t 15)⟩] [1]) (.seq (.seq (.region [⟨some 16,none,.mv (.t 1)⟩,⟨some 17,none,.bin .lss (.t 16) (.c (.d true (.int .i64 0)))⟩] [1,17]) (.cond (.t 17) (.seq (.region [⟨some 4,none,.mv (.c (.d true (.int .i64 (-1))))⟩] [4]) (.ret)) (.skip))) (.seq (.region [⟨some 18,none,.mv (.t 1)⟩,⟨some 4,none,.mv (.t 18)⟩] [4]) (.ret))))))
theorem ok6 : FnOk Tryz.prog Tryz.f6 19 keep6 ac6 [.t 4]:=by
  refine ⟨?_,?_,?_,?_,?_⟩ <;> kernel_rfl
def keep7 : Nat → List Nat
  | 0 => [1,2,3,6]
  | 1 => [1,2,6,8,9]
  | 2 => [6,8,28]
  | 3 => [6,7]
  | 4 => [6,7]
  | _ => []
def ac7 : AC:=.seq (.region [⟨some 3,none,.box (.t 0)⟩,⟨some 6,none,.alloc [.d true (.int .i64 0),.d true (.int .i64 0),.d true (.str ⟨#[]⟩),.nil]⟩,⟨some 7,none,.mv (.c (.d true (.bool false)))⟩] [1,2,3,6]) (.seq (.region [⟨some 11,none,.ld (some 4) (.t 3)⟩,⟨some 12,none,.call (.c (.fn 13 [])) [.t 11]⟩,⟨some 10,none,.mv (.t 12)⟩,⟨some 13,none,.ext (.t 10) 0⟩,⟨some 14,none,.ext (.t 10) 1⟩,⟨some 8,none,.alloc [.d true (.str ⟨#[]⟩),.d true (.int .i64 0),.d true (.int .i64 0),.d true (.str ⟨#[]⟩),.nil,.d true (.int .i64 0)]⟩,⟨none,none,.st 6 (.t 8) (.t 13)⟩,⟨some 9,none,.mv (.t 14)⟩] [1,2,6,8,9]) (.seq (.seq (.region [⟨some 15,none,.mv (.t 9)⟩,⟨some 16,none,.not (.t 15)⟩,⟨some 17,none,.mv (.t 16)⟩,⟨some 18,some (17,false),.fa 0 (.t 8)⟩,⟨some 19,some (17,false),.ld none (.t 18)⟩,⟨some 20,some (17,false),.mv (.t 1)⟩,⟨some 21,some (17,false),.bin .neq (.t 19) (.t 20)⟩,⟨some 22,none,.pick (.t 17) (.c (.d true (.bool true))) (.t 21)⟩,⟨some 23,none,.mv (.t 22)⟩,⟨some 24,some (23,false),.fa 5 (.t 8)⟩,⟨some 25,some (23,false),.ld none (.t 24)⟩,⟨some 26,some (23,false),.mv (.t 2)⟩,⟨some 27,some (23,false),.bin .lss (.t 25) (.t 26)⟩,⟨some 28,none,.pick (.t 23) (.c (.d true (.bool true))) (.t 27)⟩] [6,8,28]) (.cond (.t 28) (.seq (.region [⟨some 29,none,.bld [.d true (.int .i64 0),.d true (.int .i64 0),.d true (.str ⟨#[]⟩),.nil] []⟩,⟨none,none,.st 4 (.t 6) (.t 29)⟩,⟨some 7,none,.mv (.c (.d true (.bool false)))⟩] [6,7]) (.ret)) (.skip))) (.seq (.region [⟨some 30,none,.fa 1 (.t 8)⟩,⟨some 31,none,.ld (some 4) (.t 30)⟩,⟨none,none,.st 4 (.t 6) (.t 31)⟩,⟨some 7,none,.mv (.c (.d true (.bool true)))⟩] [6,7]) (.ret))))
theorem ok7 : FnOk Tryz.prog Tryz.f7 32 keep7 ac7 [.c 6 (some 4),.t 7]:=by
  refine ⟨?_,?_,?_,?_,?_⟩ <;> kernel_rfl
def keep8 : Nat → List Nat
  | 0 => [1,2]
  | 1 => [1,2,3]
  | 2 => [1,2,3]
  | 3 => [1,2,3]
  | 4 => [1,2,3]
  | 5 => [2,3]
  | 6 => [2]
  | _ => []
def ac8 : AC:=.seq (.region [⟨some 1,none,.box (.t 0)⟩,⟨some 2,none,.alloc [.d true (.int .i64 0),.d true (.int .i64 0),.d true (.str ⟨#[]⟩),.nil]⟩] [1,2]) (.seq (.region [⟨some 3,none,.alloc [.d true (.int .i64 0),.d true (.int .i64 0),.d true (.str ⟨#[]⟩),.nil]⟩] [1,2,3]) (.seq (.region [⟨some 4,none,.fa 0 (.t 1)⟩,⟨some 5,none,.ld none (.t 4)⟩,⟨some 6,none,.fa 0 (.t 3)⟩,⟨none,none,.st 1 (.t 6) (.t 5)⟩] [1,2,3]) (.seq (.region [⟨some 7,none,.fa 1 (.t 1)⟩,⟨some 8,none,.ld none (.t 7)⟩,⟨some 9,none,.fa 1 (.t 3)⟩,⟨none,none,.st 1 (.t 9) (.t 8)⟩] [1,2,3]) (.seq (.region [⟨some 10,none,.fa 2 (.t 1)⟩,⟨some 11,none,.ld none (.t 10)⟩,⟨some 12,none,.fa 2 (.t 3)⟩,⟨none,none,.st 1 (.t 12) (.t 11)⟩] [1,2,3]) (.seq (.region [⟨some 13,none,.fa 3 (.t 1)⟩,⟨some 14,none,.ld none (.t 13)⟩,⟨some 15,none,.call (.c (.fn 29 [])) [.t 14]⟩,⟨some 16,none,.fa 3 (.t 3)⟩,⟨none,none,.st 1 (.t 16) (.t 15)⟩] [2,3]) (.seq (.region [⟨some 17,none,.ld (some 4) (.t 3)⟩,⟨none,none,.st 4 (.t 2) (.t 17)⟩] [2]) (.ret)))))))
theorem ok8 : FnOk Tryz.prog Tryz.f8 18 keep8 ac8 [.c 2 (some 4)]:=by
  refine ⟨?_,?_,?_,?_,?_⟩ <;> kernel_rfl
def keep9 : Nat → List Nat
  | 0 => [1,2,3,6]
  | 1 => [1,2,6,8,9]
  | 2 => [6,8,28]
  | 3 => [6,7]
  | 4 => [6,7]
  | _ => []
def ac9 : AC:=.seq (.region [⟨some 3,none,.box (.t 0)⟩,⟨some 6,none,.alloc [.d true (.int .i64 0),.d true (.int .i64 0),.d true (.str ⟨#[]⟩),.nil]⟩,⟨some 7,none,.mv (.c (.d true (.bool false)))⟩] [1,2,3,6]) (.seq (.region [⟨some 11,none,.ld (some 4) (.t 3)⟩,⟨some 12,none,.call (.c (.fn 14 [])) [.t 11]⟩,⟨some 10,none,.mv (.t 12)⟩,⟨some 13,none,.ext (.t 10) 0⟩,⟨some 14,none,.ext (.t 10) 1⟩,⟨some 8,none,.alloc [.d true (.str ⟨#[]⟩),.d true (.int .i64 0),.d true (.int .i64 0),.d true (.str ⟨#[]⟩),.nil,.d true (.int .i64 0)]⟩,⟨none,none,.st 6 (.t 8) (.t 13)⟩,⟨some 9,none,.mv (.t 14)⟩] [1,2,6,8,9]) (.seq (.seq (.region [⟨some 15,none,.mv (.t 9)⟩,⟨some 16,none,.not (.t 15)⟩,⟨some 17,none,.mv (.t 16)⟩,⟨some 18,some (17,false),.fa 0 (.t 8)⟩,⟨some 19,some (17,false),.ld none (.t 18)⟩,⟨some 20,some (17,false),.mv (.t 1)⟩,⟨some 21,some (17,false),.bin .neq (.t 19) (.t 20)⟩,⟨some 22,none,.pick (.t 17) (.c (.d true (.bool true))) (.t 21)⟩,⟨some 23,none,.mv (.t 22)⟩,⟨some 24,some (23,false),.fa 5 (.t 8)⟩,⟨some 25,some (23,false),.ld none (.t 24)⟩,⟨some 26,some (23,false),.mv (.t 2)⟩,⟨some 27,some (23,false),.bin .lss (.t 25) (.t 26)⟩,⟨some 28,none,.pick (.t 23) (.c (.d true (.bool true))) (.t 27)⟩] [6,8,28]) (.cond (.t 28) (.seq (.region [⟨some 29,none,.bld [.d true (.int .i64 0),.d true (.int .i64 0),.d true (.str ⟨#[]⟩),.nil] []⟩,⟨none,none,.st 4 (.t 6) (.t 29)⟩,⟨some 7,none,.mv (.c (.d true (.bool false)))⟩] [6,7]) (.ret)) (.skip))) (.seq (.region [⟨some 30,none,.fa 1 (.t 8)⟩,⟨some 31,none,.ld (some 4) (.t 30)⟩,⟨none,none,.st 4 (.t 6) (.t 31)⟩,⟨some 7,none,.mv (.c (.d true (.bool true)))⟩] [6,7]) (.ret))))
theorem ok9 : FnOk Tryz.prog Tryz.f9 32 keep9 ac9 [.c 6 (some 4),.t 7]:=by
  refine ⟨?_,?_,?_,?_,?_⟩ <;> kernel_rfl
def keep10 : Nat → List Nat
  | 0 => [2,3]
  | 1 => [2,3,9]
  | 2 => [4]
  | 3 => [2,3,14]
  | 4 => [4]
  | 5 => [2,3,19]
  | 6 => [4]
  | 7 => [25]
  | 8 => [4]
  | 9 => [4]
  | _ => []
def ac10 : AC:=.seq (.region [⟨some 2,none,.box (.t 0)⟩,⟨some 3,none,.box (.t 1)⟩,⟨some 4,none,.mv (.c (.d true (.bool false)))⟩] [2,3]) (.seq (.seq (.region [⟨some 5,none,.fa 0 (.t 2)⟩,⟨some 6,none,.ld none (.t 5)⟩,⟨some 7,none,.fa 0 (.t 3)⟩,⟨some 8,none,.ld none (.t 7)⟩,⟨some 9,none,.bin .neq (.t 6) (.t 8)⟩] [2,3,9]) (.cond (.t 9) (.seq (.region [⟨some 4,none,.mv (.c (.d true (.bool false)))⟩] [4]) (.ret)) (.skip))) (.seq (.seq (.region [⟨some 10,none,.fa 1 (.t 2)⟩,⟨some 11,none,.ld none (.t 10)⟩,⟨some 12,none,.fa 1 (.t 3)⟩,⟨some 13,none,.ld none (.t 12)⟩,⟨some 14,none,.bin .neq (.t 11) (.t 13)⟩] [2,3,14]) (.cond (.t 14) (.seq (.region [⟨some 4,none,.mv (.c (.d true (.bool false)))⟩] [4]) (.ret)) (.skip))) (.seq (.seq (.region [⟨some 15,none,.fa 2 (.t 2)⟩,⟨some 16,none,.ld none (.t 15)⟩,⟨some 17,none,.fa 2 (.t 3)⟩,⟨some 18,none,.ld none (.t 17)⟩,⟨some 19,none,.bin .neq (.t 16) (.t 18)⟩] [2,3,19]) (.cond (.t 19) (.seq (.region [⟨some 4,none,.mv (.c (.d true (.bool false)))⟩] [4]) (.ret)) (.skip))) (.seq (.seq (.region [⟨some 20,none,.fa 3 (.t 2)⟩,⟨some 21,none,.ld none (.t 20)⟩,⟨some 22,none,.fa 3 (.t 3)⟩,⟨some 23,none,.ld none (.t 22)⟩,⟨some 24,none,.call (.c (.fn 30 [])) [.t 21,.t 23]⟩,⟨some 25,none,.not (.t 24)⟩] [25]) (.cond (.t 25) (.seq (.region [⟨some 4,none,.mv (.c (.d true (.bool false)))⟩] [4]) (.ret)) (.skip))) (.seq (.region [⟨some 4,none,.mv (.c (.d true (.bool true)))⟩] [4]) (.ret))))))
theorem ok10 : FnOk Tryz.prog Tryz.f10 26 keep10 ac10 [.t 4]:=by
  refine ⟨?_,?_,?_,?_,?_⟩ <;> kernel_rfl
def keep12 : Nat → List Nat
  | 0 => [1,2]
  | 1 => [1]
  | 2 => [1,10]
  | 3 => [4]
  | 4 => [4]
  | _ => []
def ac12 : AC:=.seq (.region [⟨some 2,none,.box (.t 0)⟩,⟨some 4,none,.mv (.c (.d true (.int .i64 0)))⟩] [1,2]) (.seq (.region [⟨some 5,none,.fa 3 (.t 2)⟩,⟨some 6,none,.ld none (.t 5)⟩,⟨some 7,none,.mv (.t 1)⟩,⟨some 8,none,.call (.c (.fn 32 [])) [.t 6,.t 7]⟩,⟨some 1,none,.mv (.t 8)⟩] [1]) (.seq (.seq (.region [⟨some 9,none,.mv (.t 1)⟩,⟨some 10,none,.bin .lss (.t 9) (.c (.d true (.int .i64 0)))⟩] [1,10]) (.cond (.t 10) (.seq (.region [⟨some 4,none,.mv (.c (.d true (.int .i64 (-1))))⟩] [4]) (.ret)) (.skip))) (.seq (.region [⟨some 11,none,.mv (.t 1)⟩,⟨some 4,none,.mv (.t 11)⟩] [4]) (.ret))))
theorem ok12 : FnOk Tryz.prog Tryz.f12 12 keep12 ac12 [.t 4]:=by
  refine ⟨?_,?_,?_,?_,?_⟩ <;> kernel_rfl
def keep13 : Nat → List Nat
  | 0 => [1,2]
  | 1 => [1,2,4,5]
  | 2 => [1,2,4,30]
  | 3 => [2,3]
  | 4 => [1,2,6,7]
  | 5 => [1,2,8]
  | 6 => [2,8,62]
  | 7 => [2,3]
  | 8 => [2,3]
  | 1000001 => [1]
  | 1000004 => [1]
  | 1000005 => [1]
  | 1000006 => [1]
  | _ => []
def ac13 : AC:=.seq (.region [⟨some 1,none,.box (.t 0)⟩,⟨some 2,none,.alloc [.d true (.str ⟨#[]⟩),.d true (.int .i64 0),.d true (.int .i64 0),.d true (.str ⟨#[]⟩),.nil,.d true (.int .i64 0)]⟩,⟨some 3,none,.mv (.c (.d true (.bool false)))⟩] [1,2]) (.seq (.tree (.take ⟨some 12,none,.ld (some 4) (.t 1)⟩ (.br (.cons ⟨some 10,none,.call (.c (.fn 35 [])) [.c (.d true (.int .i64 1))]⟩ (.br (.cons ⟨some 11,none,.call (.c (.fn 34 [])) [.t 10]⟩ (.br (.cons ⟨some 13,none,.call (.c (.fn 33 [])) [.t 11,.t 12]⟩ (.take ⟨some 9,none,.mv (.t 13)⟩ (.take ⟨some 14,none,.ext (.t 9) 0⟩ (.take ⟨some 15,none,.ext (.t 9) 1⟩ (.br (.cons ⟨some 4,none,.alloc [.d true (.int .i64 0),.d true (.int .i64 0),.d true (.str ⟨#[]⟩),.nil]⟩ (.br (.cons ⟨none,none,.st 4 (.t 4) (.t 14)⟩ (.take ⟨some 5,none,.mv (.t 15)⟩ (.done)) (.nil))) (.nil)))))) (.cons ⟨some 4,none,.alloc [.d true (.int .i64 0),.d true (.int .i64 0),.d true (.str ⟨#[]⟩),.nil]⟩ (.br (.cons ⟨some 13,none,.call (.c (.fn 33 [])) [.t 11,.t 12]⟩ (.take ⟨some 9,none,.mv (.t 13)⟩ (.take ⟨some 14,none,.ext (.t 9) 0⟩ (.take ⟨some 15,none,.ext (.t 9) 1⟩ (.br (.cons ⟨none,none,.st 4 (.t 4) (.t 14)⟩ (.take ⟨some 5,none,.mv (.t 15)⟩ (.done)) (.nil)))))) (.nil))) (.nil)))) (.cons ⟨some 4,none,.alloc [.d true (.int .i64 0),.d true (.int .i64 0),.d true (.str ⟨#[]⟩),.nil]⟩ (.br (.cons ⟨some 11,none,.call (.c (.fn 34 [])) [.t 10]⟩ (.br (.cons ⟨some 13,none,.call (.c (.fn 33 [])) [.t 11,.t 12]⟩ (.take ⟨some 9,none,.mv (.t 13)⟩ (.take ⟨some 14,none,.ext (.t 9) 0⟩ (.take ⟨some 15,none,.ext (.t 9) 1⟩ (.br (.cons ⟨none,none,.st 4 (.t 4) (.t 14)⟩ (.take ⟨some 5,none,.mv (.t 15)⟩ (.done)) (.nil)))))) (.nil))) (.nil))) (.nil)))) (.cons ⟨some 4,none,.alloc [.d true (.int .i64 0),.d true (.int .i64 0),.d true (.str ⟨#[]⟩),.nil]⟩ (.br (.cons ⟨some 10,none,.call (.c (.fn 35 [])) [.c (.d true (.int .i64 1))]⟩ (.br (.cons ⟨some 11,none,.call (.c (.fn 34 [])) [.t 10]⟩ (.br (.cons ⟨some 13,none,.call (.c (.fn 33 [])) [.t 11,.t 12]⟩ (.take ⟨some 9,none,.mv (.t 13)⟩ (.take ⟨some 14,none,.ext (.t 9) 0⟩ (.take ⟨some 15,none,.ext (.t 9) 1⟩ (.br (.cons ⟨none,none,.st 4 (.t 4) (.t 14)⟩ (.take ⟨some 5,none,.mv (.t 15)⟩ (.done)) (.nil)))))) (.nil))) (.nil))) (.nil))) (.nil))))) [1,2,4,5]) (.seq (.seq (.region [⟨some 16,none,.mv (.t 5)⟩,⟨some 17,none,.not (.t 16)⟩,⟨some 18,none,.mv (.t 17)⟩,⟨some 19,some (18,false),.fa 0 (.t 4)⟩,⟨some 20,some (18,false),.ld none (.t 19)⟩,⟨some 21,some (18,false),.bin .neq (.t 20) (.c (.d true (.int .i64 3)))⟩,⟨some 22,none,.pick (.t 18) (.c (.d true (.bool true))) (.t 21)⟩,⟨some 23,none,.mv (.t 22)⟩,⟨some 24,some (23,false),.fa 3 (.t 4)⟩,⟨some 25,some (23,false),.ld none (.t 24)⟩,⟨some 26,some (23,false),.ia 4 (.t 25) (.c (.d true (.int .i64 1)))⟩,⟨some 27,some (23,false),.fa 0 (.t 26)⟩,⟨some 28,some (23,false),.ld none (.t 27)⟩,⟨some 29,some (23,false),.bin .neq (.t 28) (.c (.d true (.int .i64 3)))⟩,⟨some 30,none,.pick (.t 23) (.c (.d true (.bool true))) (.t 29)⟩] [1,2,4,30]) (.cond (.t 30) (.seq (.region [⟨some 31,none,.bld [.d true (.str ⟨#[]⟩),.d true (.int .i64 0),.d true (.int .i64 0),.d true (.str ⟨#[]⟩),.nil,.d true (.int .i64 0)] []⟩,⟨none,none,.st 6 (.t 2) (.t 31)⟩,⟨some 3,none,.mv (.c (.d true (.bool false)))⟩] [2,3]) (.ret)) (.skip))) (.seq (.tree (.take ⟨some 32,none,.fa 3 (.t 4)⟩ (.take ⟨some 33,none,.ld none (.t 32)⟩ (.take ⟨some 34,none,.ia 4 (.t 33) (.c (.d true (.int .i64 0)))⟩ (.take ⟨some 35,none,.ld (some 4) (.t 34)⟩ (.take ⟨some 36,none,.fa 3 (.t 4)⟩ (.take ⟨some 37,none,.ld none (.t 36)⟩ (.take ⟨some 38,none,.ia 4 (.t 37) (.c (.d true (.int .i64 1)))⟩ (.take ⟨some 39,none,.ld (some 4) (.t 38)⟩ (.br (.cons ⟨some 6,none,.alloc [.d true (.int .i64 0),.d true (.int .i64 0),.d true (.str ⟨#[]⟩),.nil]⟩ (.br (.cons ⟨some 7,none,.alloc [.d true (.int .i64 0),.d true (.int .i64 0),.d true (.str ⟨#[]⟩),.nil]⟩ (.br (.cons ⟨none,none,.st 4 (.t 6) (.t 35)⟩ (.br (.cons ⟨none,none,.st 4 (.t 7) (.t 39)⟩ (.done) (.nil))) (.nil))) (.nil))) (.cons ⟨some 7,none,.alloc [.d true (.int .i64 0),.d true (.int .i64 0),.d true (.str ⟨#[]⟩),.nil]⟩ (.br (.cons ⟨some 6,none,.alloc [.d true (.int .i64 0),.d true (.int .i64 0),.d true (.str ⟨#[]⟩),.nil]⟩ (.br (.cons ⟨none,none,.st 4 (.t 6) (.t 35)⟩ (.br (.cons ⟨none,none,.st 4 (.t 7) (.t 39)⟩ (.done) (.nil))) (.nil))) (.nil))) (.nil)))))))))))) [1,2,6,7]) (.seq (.tree (.take ⟨some 40,none,.fa 2 (.t 6)⟩ (.take ⟨some 41,none,.ld none (.t 40)⟩ (.take ⟨some 42,none,.fa 3 (.t 7)⟩ (.take ⟨some 43,none,.ld none (.t 42)⟩ (.take ⟨some 44,none,.ia 4 (.t 43) (.c (.d true (.int .i64 0)))⟩ (.take ⟨some 45,none,.ld (some 4) (.t 44)⟩ (.take ⟨some 46,none,.fa 3 (.t 7)⟩ (.take ⟨some 47,none,.ld none (.t 46)⟩ (.take ⟨some 48,none,.ia 4 (.t 47) (.c (.d true (.int .i64 1)))⟩ (.take ⟨some 49,none,.fa 2 (.t 48)⟩ (.take ⟨some 50,none,.ld none (.t 49)⟩ (.br (.cons ⟨some 51,none,.call (.c (.fn 36 [])) [.t 50]⟩ (.take ⟨some 52,none,.bld [.d true (.str ⟨#[]⟩),.d true (.int .i64 0),.d true (.int .i64 0),.d true (.str ⟨#[]⟩),.nil,.d true (.int .i64 0)] [(0,1,.t 41),(1,4,.t 45),(5,1,.t 51)]⟩ (.br (.cons ⟨some 8,none,.alloc [.d true (.str ⟨#[]⟩),.d true (.int .i64 0),.d true (.int .i64 0),.d true (.str ⟨#[]⟩),.nil,.d true (.int .i64 0)]⟩ (.br (.cons ⟨none,none,.st 6 (.t 8) (.t 52)⟩ (.done) (.nil))) (.nil)))) (.cons ⟨some 8,none,.alloc [.d true (.str ⟨#[]⟩),.d true (.int .i64 0),.d true (.int .i64 0),.d true (.str ⟨#[]⟩),.nil,.d true (.int .i64 0)]⟩ (.br (.cons ⟨some 51,none,.call (.c (.fn 36 [])) [.t 50]⟩ (.take ⟨some 52,none,.bld [.d true (.str ⟨#[]⟩),.d true (.int .i64 0),.d true (.int .i64 0),.d true (.str ⟨#[]⟩),.nil,.d true (.int .i64 0)] [(0,1,.t 41),(1,4,.t 45),(5,1,.t 51)]⟩ (.br (.cons ⟨none,none,.st 6 (.t 8) (.t 52)⟩ (.done) (.nil)))) (.nil))) (.nil))))))))))))))) [1,2,8]) (.seq (.seq (.tree (.take ⟨some 53,none,.ld (some 6) (.t 8)⟩ (.br (.cons ⟨some 54,none,.call (.c (.fn 27 [])) [.t 53]⟩ (.take ⟨some 55,none,.not (.t 54)⟩ (.take ⟨some 56,none,.mv (.t 55)⟩ (.take ⟨some 57,some (56,false),.ld (some 6) (.t 8)⟩ (.take ⟨some 59,some (56,false),.ld (some 4) (.t 1)⟩ (.br (.cons ⟨some 58,some (56,false),.call (.c (.fn 25 [])) [.t 57]⟩ (.br (.cons ⟨some 60,some (56,false),.call (.c (.fn 37 [])) [.t 58,.t 59]⟩ (.take ⟨some 61,some (56,false),.not (.t 60)⟩ (.take ⟨some 62,none,.pick (.t 56) (.c (.d true (.bool true))) (.t 61)⟩ (.done))) (.nil))) (.nil))))))) (.nil)))) [2,8,62]) (.cond (.t 62) (.seq (.region [⟨some 63,none,.bld [.d true (.str ⟨#[]⟩),.d true (.int .i64 0),.d true (.int .i64 0),.d true (.str ⟨#[]⟩),.nil,.d true (.int .i64 0)] []⟩,⟨none,none,.st 6 (.t 2) (.t 63)⟩,⟨some 3,none,.mv (.c (.d true (.bool false)))⟩] [2,3]) (.ret)) (.skip))) (.seq (.region [⟨some 64,none,.ld (some 6) (.t 8)⟩,⟨none,none,.st 6 (.t 2) (.t 64)⟩,⟨some 3,none,.mv (.c (.d true (.bool true)))⟩] [2,3]) (.ret)))))))
theorem ok13 : FnOk Tryz.prog Tryz.f13 65 keep13 ac13 [.c 2 (some 6),.t 3]:=by
  refine ⟨?_,?_,?_,?_,?_⟩ <;> kernel_rfl
def keep14 : Nat → List Nat
  | 0 => [1,2]
  | 1 => [1,2,4,5]
  | 2 => [1,2,5,6,7,8]
  | 3 => [1,2,5,6,8,9,10,11]
  | 4 => [1,2,5,6,8,9,11,12,13]
  | 5 => [1,2,6,9,12,54]
  | 6 => [2,3]
  | 7 => [1,2,14]
  | 8 => [1,2,14,15]
  | 9 => [2,14,72]
  | 10 => [2,3]
  | 11 => [2,3]
  | 1000001 => [1]
  | 1000007 => [1]
  | _ => []
def ac14 : AC:=.seq (.region [⟨some 1,none,.box (.t 0)⟩,⟨some 2,none,.alloc [.d true (.str ⟨#[]⟩),.d true (.int .i64 0),.d true (.int .i64 0),.d true (.str ⟨#[]⟩),.nil,.d true (.int .i64 0)]⟩,⟨some 3,none,.mv (.c (.d true (.bool false)))⟩] [1,2]) (.seq (.tree (.take ⟨some 19,none,.ld (some 4) (.t 1)⟩ (.br (.cons ⟨some 17,none,.call (.c (.fn 40 [])) [.c (.d true (.int .i64 1))]⟩ (.br (.cons ⟨some 18,none,.call (.c (.fn 39 [])) [.t 17]⟩ (.br (.cons ⟨some 20,none,.call (.c (.fn 38 [])) [.t 18,.t 19]⟩ (.take ⟨some 16,none,.mv (.t 20)⟩ (.take ⟨some 21,none,.ext (.t 16) 0⟩ (.take ⟨some 22,none,.ext (.t 16) 1⟩ (.br (.cons ⟨some 4,none,.alloc [.d true (.int .i64 0),.d true (.int .i64 0),.d true (.str ⟨#[]⟩),.nil]⟩ (.br (.cons ⟨none,none,.st 4 (.t 4) (.t 21)⟩ (.take ⟨some 5,none,.mv (.t 22)⟩ (.done)) (.nil))) (.nil)))))) (.cons ⟨some 4,none,.alloc [.d true (.int .i64 0),.d true (.int .i64 0),.d true (.str ⟨#[]⟩),.nil]⟩ (.br (.cons ⟨some 20,none,.call (.c (.fn 38 [])) [.t 18,.t 19]⟩ (.take ⟨some 16,none,.mv (.t 20)⟩ (.take ⟨some 21,none,.ext (.t 16) 0⟩ (.take ⟨some 22,none,.ext (.t 16) 1⟩ (.br (.cons ⟨none,none,.st 4 (.t 4) (.t 21)⟩ (.take ⟨some 5,none,.mv (.t 22)⟩ (.done)) (.nil)))))) (.nil))) (.nil)))) (.cons ⟨some 4,none,.alloc [.d true (.int .i64 0),.d true (.int .i64 0),.d true (.str ⟨#[]⟩),.nil]⟩ (.br (.cons ⟨some 18,none,.call (.c (.fn 39 [])) [.t 17]⟩ (.br (.cons ⟨some 20,none,.call (.c (.fn 38 [])) [.t 18,.t 19]⟩ (.take ⟨some 16,none,.mv (.t 20)⟩ (.take ⟨some 21,none,.ext (.t 16) 0⟩ (.take ⟨some 22,none,.ext (.t 16) 1⟩ (.br (.cons ⟨none,none,.st 4 (.t 4) (.t 21)⟩ (.take ⟨some 5,none,.mv (.t 22)⟩ (.done)) (.nil)))))) (.nil))) (.nil))) (.nil)))) (.cons ⟨some 4,none,.alloc [.d true (.int .i64 0),.d true (.int .i64 0),.d true (.str ⟨#[]⟩),.nil]⟩ (.br (.cons ⟨some 17,none,.call (.c (.fn 40 [])) [.c (.d true (.int .i64 1))]⟩ (.br (.cons ⟨some 18,none,.call (.c (.fn 39 [])) [.t 17]⟩ (.br (.cons ⟨some 20,none,.call (.c (.fn 38 [])) [.t 18,.t 19]⟩ (.take ⟨some 16,none,.mv (.t 20)⟩ (.take ⟨some 21,none,.ext (.t 16) 0⟩ (.take ⟨some 22,none,.ext (.t 16) 1⟩ (.br (.cons ⟨none,none,.st 4 (.t 4) (.t 21)⟩ (.take ⟨some 5,none,.mv (.t 22)⟩ (.done)) (.nil)))))) (.nil))) (.nil))) (.nil))) (.nil))))) [1,2,4,5]) (.seq (.region [⟨some 24,none,.ld (some 4) (.t 4)⟩,⟨some 25,none,.call (.c (.fn 41 [])) [.t 24]⟩,⟨some 23,none,.mv (.t 25)⟩,⟨some 26,none,.ext (.t 23) 0⟩,⟨some 27,none,.ext (.t 23) 1⟩,⟨some 28,none,.ext (.t 23) 2⟩,⟨some 6,none,.alloc [.d true (.int .i64 0),.d true (.int .i64 0),.d true (.str ⟨#[]⟩),.nil]⟩,⟨some 7,none,.alloc [.d true (.int .i64 0),.d true (.int .i64 0),.d true (.str ⟨#[]⟩),.nil]⟩,⟨none,none,.st 4 (.t 6) (.t 26)⟩,⟨none,none,.st 4 (.t 7) (.t 27)⟩,⟨some 8,none,.mv (.t 28)⟩] [1,2,5,6,7,8]) (.seq (.region [⟨some 30,none,.ld (some 4) (.t 7)⟩,⟨some 31,none,.call (.c (.fn 41 [])) [.t 30]⟩,⟨some 29,none,.mv (.t 31)⟩,⟨some 32,none,.ext (.t 29) 0⟩,⟨some 33,none,.ext (.t 29) 1⟩,⟨some 34,none,.ext (.t 29) 2⟩,⟨some 9,none,.alloc [.d true (.int .i64 0),.d true (.int .i64 0),.d true (.str ⟨#[]⟩),.nil]⟩,⟨some 10,none,.alloc [.d true (.int .i64 0),.d true (.int .i64 0),.d true (.str ⟨#[]⟩),.nil]⟩,⟨none,none,.st 4 (.t 9) (.t 32)⟩,⟨none,none,.st 4 (.t 10) (.t 33)⟩,⟨some 11,none,.mv (.t 34)⟩] [1,2,5,6,8,9,10,11]) (.seq (.region [⟨some 36,none,.fa 2 (.t 10)⟩,⟨some 37,none,.ld none (.t 36)⟩,⟨some 38,none,.call (.c (.fn 42 [])) [.t 37]⟩,⟨some 35,none,.mv (.t 38)⟩,⟨some 39,none,.ext (.t 35) 0⟩,⟨some 40,none,.ext (.t 35) 1⟩,⟨some 12,none,.mv (.t 39)⟩,⟨some 13,none,.mv (.t 40)⟩] [1,2,5,6,8,9,11,12,13]) (.seq (.seq (.region [⟨some 41,none,.mv (.t 5)⟩,⟨some 42,none,.not (.t 41)⟩,⟨some 43,none,.mv (.t 42)⟩,⟨some 44,some (43,false),.mv (.t 8)⟩,⟨some 45,some (43,false),.not (.t 44)⟩,⟨some 46,none,.pick (.t 43) (.c (.d true (.bool true))) (.t 45)⟩,⟨some 47,none,.mv (.t 46)⟩,⟨some 48,some (47,false),.mv (.t 11)⟩,⟨some 49,some (47,false),.not (.t 48)⟩,⟨some 50,none,.pick (.t 47) (.c (.d true (.bool true))) (.t 49)⟩,⟨some 51,none,.mv (.t 50)⟩,⟨some 52,some (51,false),.mv (.t 13)⟩,⟨some 53,some (51,false),.inl true (.t 52)⟩,⟨some 54,none,.pick (.t 51) (.c (.d true (.bool true))) (.t 53)⟩] [1,2,6,9,12,54]) (.cond (.t 54) (.seq (.region [⟨some 55,none,.bld [.d true (.str ⟨#[]⟩),.d true (.int .i64 0),.d true (.int .i64 0),.d true (.str ⟨#[]⟩),.nil,.d true (.int .i64 0)] []⟩,⟨none,none,.st 6 (.t 2) (.t 55)⟩,⟨some 3,none,.mv (.c (.d true (.bool false)))⟩] [2,3]) (.ret)) (.skip))) (.seq (.tree (.take ⟨some 56,none,.fa 2 (.t 6)⟩ (.take ⟨some 57,none,.ld none (.t 56)⟩ (.take ⟨some 58,none,.ld (some 4) (.t 9)⟩ (.take ⟨some 60,none,.mv (.t 12)⟩ (.br (.cons ⟨some 59,none,.call (.c (.fn 43 [])) [.t 58]⟩ (.take ⟨some 61,none,.bld [.d true (.str ⟨#[]⟩),.d true (.int .i64 0),.d true (.int .i64 0),.d true (.str ⟨#[]⟩),.nil,.d true (.int .i64 0)] [(0,1,.t 57),(1,4,.t 59),(5,1,.t 60)]⟩ (.br (.cons ⟨some 14,none,.alloc [.d true (.str ⟨#[]⟩),.d true (.int .i64 0),.d true (.int .i64 0),.d true (.str ⟨#[]⟩),.nil,.d true (.int .i64 0)]⟩ (.br (.cons ⟨none,none,.st 6 (.t 14) (.t 61)⟩ (.done) (.nil))) (.nil)))) (.cons ⟨some 14,none,.alloc [.d true (.str ⟨#[]⟩),.d true (.int .i64 0),.d true (.int .i64 0),.d true (.str ⟨#[]⟩),.nil,.d true (.int .i64 0)]⟩ (.br (.cons ⟨some 59,none,.call (.c (.fn 43 [])) [.t 58]⟩ (.take ⟨some 61,none,.bld [.d true (.str ⟨#[]⟩),.d true (.int .i64 0),.d true (.int .i64 0),.d true (.str ⟨#[]⟩),.nil,.d true (.int .i64 0)] [(0,1,.t 57),(1,4,.t 59),(5,1,.t 60)]⟩ (.br (.cons ⟨none,none,.st 6 (.t 14) (.t 61)⟩ (.done) (.nil)))) (.nil))) (.nil)))))))) [1,2,14]) (.seq (.seq (.region [⟨some 62,none,.ld (some 6) (.t 14)⟩,⟨some 63,none,.call (.c (.fn 20 [])) [.t 62]⟩,⟨some 15,none,.alloc [.d true (.int .i64 0),.d true (.int .i64 0),.d true (.str ⟨#[]⟩),.nil]⟩,⟨none,none,.st 4 (.t 15) (.t 63)⟩] [1,2,14,15]) (.seq (.region [⟨some 64,none,.fa 0 (.t 15)⟩,⟨some 65,none,.ld none (.t 64)⟩,⟨some 66,none,.bin .neq (.t 65) (.c (.d true (.int .i64 8)))⟩,⟨some 67,none,.mv (.t 66)⟩,⟨some 68,some (67,false),.ld (some 4) (.t 15)⟩,⟨some 69,some (67,false),.ld (some 4) (.t 1)⟩,⟨some 70,some (67,false),.call (.c (.fn 24 [])) [.t 68,.t 69]⟩,⟨some 71,some (67,false),.not (.t 70)⟩,⟨some 72,none,.pick (.t 67) (.c (.d true (.bool true))) (.t 71)⟩] [2,14,72]) (.cond (.t 72) (.seq (.region [⟨some 73,none,.bld [.d true (.str ⟨#[]⟩),.d true (.int .i64 0),.d true (.int .i64 0),.d true (.str ⟨#[]⟩),.nil,.d true (.int .i64 0)] []⟩,⟨none,none,.st 6 (.t 2) (.t 73)⟩,⟨some 3,none,.mv (.c (.d true (.bool false)))⟩] [2,3]) (.ret)) (.skip)))) (.seq (.region [⟨some 74,none,.ld (some 6) (.t 14)⟩,⟨none,none,.st 6 (.t 2) (.t 74)⟩,⟨some 3,none,.mv (.c (.d true (.bool true)))⟩] [2,3]) (.ret)))))))))
theorem ok14 : FnOk Tryz.prog Tryz.f14 75 keep14 ac14 [.c 2 (some 6),.t 3]:=by
  refine ⟨?_,?_,?_,?_,?_⟩ <;> kernel_rfl
def keep20 : Nat → List Nat
  | 0 => [1,2]
  | 1 => [1,2,5]
  | 2 => [2]
  | 3 => [2]
  | 1000003 => [1]
  | _ => []
def ac20 : AC:=.seq (.region [⟨some 1,none,.box (.t 0)⟩,⟨some 2,none,.alloc [.d true (.int .i64 0),.d true (.int .i64 0),.d true (.str ⟨#[]⟩),.nil]⟩] [1,2]) (.seq (.seq (.region [⟨some 3,none,.ld (some 6) (.t 1)⟩,⟨some 4,none,.call (.c (.fn 26 [])) [.t 3]⟩,⟨some 5,none,.not (.t 4)⟩] [1,2,5]) (.cond (.t 5) (.seq (.region [⟨some 6,none,.bld [.d true (.int .i64 0),.d true (.int .i64 0),.d true (.str ⟨#[]⟩),.nil] []⟩,⟨none,none,.st 4 (.t 2) (.t 6)⟩] [2]) (.ret)) (.skip))) (.seq (.tree (.take ⟨some 8,none,.fa 0 (.t 1)⟩ (.take ⟨some 9,none,.ld none (.t 8)⟩ (.take ⟨some 11,none,.fa 1 (.t 1)⟩ (.take ⟨some 12,none,.ld (some 4) (.t 11)⟩ (.take ⟨some 13,none,.fa 5 (.t 1)⟩ (.take ⟨some 14,none,.ld none (.t 13)⟩ (.br (.cons ⟨some 7,none,.call (.c (.fn 40 [])) [.c (.d true (.int .i64 1))]⟩ (.br (.cons ⟨some 10,none,.call (.c (.fn 48 [])) [.t 9]⟩ (.br (.cons ⟨some 15,none,.call (.c (.fn 49 [])) [.t 14]⟩ (.br (.cons ⟨some 16,none,.call (.c (.fn 47 [])) [.t 12,.t 15]⟩ (.br (.cons ⟨some 17,none,.call (.c (.fn 47 [])) [.t 10,.t 16]⟩ (.br (.cons ⟨some 18,none,.call (.c (.fn 46 [])) [.t 7,.t 17]⟩ (.br (.cons ⟨none,none,.st 4 (.t 2) (.t 18)⟩ (.done) (.nil))) (.nil))) (.nil))) (.nil))) (.nil))) (.nil))) (.nil))))))))) [2]) (.ret)))
theorem ok20 : FnOk Tryz.prog Tryz.f20 19 keep20 ac20 [.c 2 (some 4)]:=by
  refine ⟨?_,?_,?_,?_,?_⟩ <;> kernel_rfl
def keep24 : Nat → List Nat
  | 0 => [2,3]
  | 1 => [4]
  | _ => []
def ac24 : AC:=.seq (.region [⟨some 2,none,.box (.t 0)⟩,⟨some 3,none,.box (.t 1)⟩,⟨some 4,none,.mv (.c (.d true (.bool false)))⟩] [2,3]) (.seq (.region [⟨some 5,none,.fa 0 (.t 2)⟩,⟨some 6,none,.ld none (.t 5)⟩,⟨some 7,none,.fa 0 (.t 3)⟩,⟨some 8,none,.ld none (.t 7)⟩,⟨some 9,none,.bin .eql (.t 6) (.t 8)⟩,⟨some 10,none,.mv (.t 9)⟩,⟨some 11,some (10,true),.fa 1 (.t 2)⟩,⟨some 12,some (10,true),.ld none (.t 11)⟩,⟨some 13,some (10,true),.fa 1 (.t 3)⟩,⟨some 14,some (10,true),.ld none (.t 13)⟩,⟨some 15,some (10,true),.bin .eql (.t 12) (.t 14)⟩,⟨some 16,none,.pick (.t 10) (.t 15) (.c (.d true (.bool false)))⟩,⟨some 17,none,.mv (.t 16)⟩,⟨some 18,some (17,true),.fa 2 (.t 2)⟩,⟨some 19,some (17,true),.ld none (.t 18)⟩,⟨some 20,some (17,true),.fa 2 (.t 3)⟩,⟨some 21,some (17,true),.ld none (.t 20)⟩,⟨some 22,some (17,true),.bin .eql (.t 19) (.t 21)⟩,⟨some 23,none,.pick (.t 17) (.t 22) (.c (.d true (.bool false)))⟩,⟨some 24,none,.mv (.t 23)⟩,⟨some 25,some (24,true),.fa 3 (.t 2)⟩,⟨some 26,some (24,true),.ld none (.t 25)⟩,⟨some 27,some (24,true),.fa 3 (.t 3)⟩,⟨some 28,some (24,true),.ld none (.t 27)⟩,⟨some 29,some (24,true),.call (.c (.fn 54 [])) [.t 26,.t 28,.c (.fn 24 [])]⟩,⟨some 30,none,.pick (.t 24) (.t 29) (.c (.d true (.bool false)))⟩,⟨some 4,none,.mv (.t 30)⟩] [4]) (.ret))
theorem ok24 : FnOk Tryz.prog Tryz.f24 31 keep24 ac24 [.t 4]:=by
  refine ⟨?_,?_,?_,?_,?_⟩ <;> kernel_rfl
def keep25 : Nat → List Nat
  | 0 => [1,2]
  | 1 => [1,2,5]
  | 2 => [2]
  | 3 => [2]
  | 1000003 => [1]
  | _ => []
def ac25 : AC:=.seq (.region [⟨some 1,none,.box (.t 0)⟩,⟨some 2,none,.alloc [.d true (.int .i64 0),.d true (.int .i64 0),.d true (.str ⟨#[]⟩),.nil]⟩] [1,2]) (.seq (.seq (.region [⟨some 3,none,.ld (some 6) (.t 1)⟩,⟨some 4,none,.call (.c (.fn 27 [])) [.t 3]⟩,⟨some 5,none,.not (.t 4)⟩] [1,2,5]) (.cond (.t 5) (.seq (.region [⟨some 6,none,.bld [.d true (.int .i64 0),.d true (.int .i64 0),.d true (.str ⟨#[]⟩),.nil] []⟩,⟨none,none,.st 4 (.t 2) (.t 6)⟩] [2]) (.ret)) (.skip))) (.seq (.tree (.take ⟨some 8,none,.fa 0 (.t 1)⟩ (.take ⟨some 9,none,.ld none (.t 8)⟩ (.take ⟨some 10,none,.bld [.d true (.int .i64 0),.d true (.int .i64 0),.d true (.str ⟨#[]⟩),.nil] [(0,1,.c (.d true (.int .i64 2))),(2,1,.t 9)]⟩ (.take ⟨some 11,none,.fa 1 (.t 1)⟩ (.take ⟨some 12,none,.ld (some 4) (.t 11)⟩ (.take ⟨some 13,none,.fa 5 (.t 1)⟩ (.take ⟨some 14,none,.ld none (.t 13)⟩ (.br (.cons ⟨some 7,none,.call (.c (.fn 35 [])) [.c (.d true (.int .i64 1))]⟩ (.br (.cons ⟨some 15,none,.call (.c (.fn 57 [])) [.t 14]⟩ (.br (.cons ⟨some 16,none,.call (.c (.fn 56 [])) [.t 12,.t 15]⟩ (.br (.cons ⟨some 17,none,.call (.c (.fn 56 [])) [.t 10,.t 16]⟩ (.br (.cons ⟨some 18,none,.call (.c (.fn 55 [])) [.t 7,.t 17]⟩ (.br (.cons ⟨none,none,.st 4 (.t 2) (.t 18)⟩ (.done) (.nil))) (.nil))) (.nil))) (.nil))) (.nil))) (.nil)))))))))) [2]) (.ret)))
theorem ok25 : FnOk Tryz.prog Tryz.f25 19 keep25 ac25 [.c 2 (some 4)]:=by
  refine ⟨?_,?_,?_,?_,?_⟩ <;> kernel_rfl
def keep26 : Nat → List Nat
  | 0 => [1]
  | 1 => [2]
  | _ => []
def ac26 : AC:=.seq (.region [⟨some 1,none,.box (.t 0)⟩,⟨some 2,none,.mv (.c (.d true (.bool false)))⟩] [1]) (.seq (.region [⟨some 3,none,.fa 0 (.t 1)⟩,⟨some 4,none,.ld none (.t 3)⟩,⟨some 5,none,.call (.c (.fn 58 [])) [.t 4]⟩,⟨some 6,none,.mv (.t 5)⟩,⟨some 7,some (6,true),.fa 1 (.t 1)⟩,⟨some 8,some (6,true),.fa 0 (.t 7)⟩,⟨some 9,some (6,true),.ld none (.t 8)⟩,⟨some 10,some (6,true),.bin .eql (.t 9) (.c (.d true (.int .i64 4)))⟩,⟨some 11,none,.pick (.t 6) (.t 10) (.c (.d true (.bool false)))⟩,⟨some 12,none,.mv (.t 11)⟩,⟨some 13,some (12,true),.fa 1 (.t 1)⟩,⟨some 14,some (12,true),.ld (some 4) (.t 13)⟩,⟨some 15,some (12,true),.call (.c (.fn 59 [])) [.t 14]⟩,⟨some 16,none,.pick (.t 12) (.t 15) (.c (.d true (.bool false)))⟩,⟨some 17,none,.mv (.t 16)⟩,⟨some 18,some (17,true),.fa 5 (.t 1)⟩,⟨some 19,some (17,true),.ld none (.t 18)⟩,⟨some 20,some (17,true),.call (.c (.fn 60 [])) [.t 19,.c (.d true (.int .i64 0)),.c (.d true (.int .i64 100000))]⟩,⟨some 21,none,.pick (.t 17) (.t 20) (.c (.d true (.bool false)))⟩,⟨some 2,none,.mv (.t 21)⟩] [2]) (.ret))
theorem ok26 : FnOk Tryz.prog Tryz.f26 22 keep26 ac26 [.t 2]:=by
  refine ⟨?_,?_,?_,?_,?_⟩ <;> kernel_rfl
def keep27 : Nat → List Nat
  | 0 => [1]
  | 1 => [2]
  | _ => []
def ac27 : AC:=.seq (.region [⟨some 1,none,.box (.t 0)⟩,⟨some 2,none,.mv (.c (.d true (.bool false)))⟩] [1]) (.seq (.region [⟨some 3,none,.fa 0 (.t 1)⟩,⟨some 4,none,.ld none (.t 3)⟩,⟨some 5,none,.call (.c (.fn 61 [])) [.t 4]⟩,⟨some 6,none,.mv (.t 5)⟩,⟨some 7,some (6,true),.fa 1 (.t 1)⟩,⟨some 8,some (6,true),.fa 0 (.t 7)⟩,⟨some 9,some (6,true),.ld none (.t 8)⟩,⟨some 10,some (6,true),.bin .eql (.t 9) (.c (.d true (.int .i64 4)))⟩,⟨some 11,none,.pick (.t 6) (.t 10) (.c (.d true (.bool false)))⟩,⟨some 12,none,.mv (.t 11)⟩,⟨some 13,some (12,true),.fa 1 (.t 1)⟩,⟨some 14,some (12,true),.ld (some 4) (.t 13)⟩,⟨some 15,some (12,true),.call (.c (.fn 62 [])) [.t 14]⟩,⟨some 16,none,.pick (.t 12) (.t 15) (.c (.d true (.bool false)))⟩,⟨some 17,none,.mv (.t 16)⟩,⟨some 18,some (17,true),.fa 5 (.t 1)⟩,⟨some 19,some (17,true),.ld none (.t 18)⟩,⟨some 20,some (17,true),.call (.c (.fn 63 [])) [.t 19,.c (.d true (.int .i64 0)),.c (.d true (.int .i64 100000))]⟩,⟨some 21,none,.pick (.t 17) (.t 20) (.c (.d true (.bool false)))⟩,⟨some 2,none,.mv (.t 21)⟩] [2]) (.ret))
theorem ok27 : FnOk Tryz.prog Tryz.f27 22 keep27 ac27 [.t 2]:=by
  refine ⟨?_,?_,?_,?_,?_⟩ <;> kernel_rfl
def keep28 : Nat → List Nat
  | 0 => [0,1]
  | 1 => [0,1]
  | 2 => [0,1,11]
  | 3 => [4]
  | 4 => [0,1,5]
  | 5 => [0,1,5,15]
  | 6 => [0,1,5]
  | 7 => [0,1,5]
  | 8 => [0,1,5,25]
  | 9 => [4]
  | 10 => [4]
  | _ => []
def ac28 : AC:=.seq (.region [⟨some 4,none,.mv (.c (.d true (.int .i64 0)))⟩] [0,1]) (.seq (.region [⟨some 6,none,.mv (.t 1)⟩,⟨some 7,none,.mv (.t 0)⟩,⟨some 8,none,.len (.t 7)⟩,⟨some 9,none,.bin .sub (.t 6) (.t 8)⟩,⟨some 1,none,.mv (.t 9)⟩] [0,1]) (.seq (.seq (.region [⟨some 10,none,.mv (.t 1)⟩,⟨some 11,none,.bin .lss (.t 10) (.c (.d true (.int .i64 0)))⟩] [0,1,11]) (.cond (.t 11) (.seq (.region [⟨some 4,none,.mv (.c (.d true (.int .i64 (-1))))⟩] [4]) (.ret)) (.skip))) (.seq (.seq (.region [⟨some 5,none,.mv (.c (.d true (.int .i64 0)))⟩] [0,1,5]) (.block 0 (.loop (.seq (.seq (.region [⟨some 12,none,.mv (.t 5)⟩,⟨some 13,none,.mv (.t 0)⟩,⟨some 14,none,.len (.t 13)⟩,⟨some 15,none,.bin .lss (.t 12) (.t 14)⟩] [0,1,5,15]) (.cond (.t 15) (.skip) (.exit 0))) (.seq (.block 1 (.seq (.region [⟨some 18,none,.mv (.t 0)⟩,⟨some 19,none,.mv (.t 5)⟩,⟨some 20,none,.ia 4 (.t 18) (.t 19)⟩,⟨some 21,none,.ld (some 4) (.t 20)⟩,⟨some 22,none,.mv (.t 1)⟩,⟨some 23,none,.call (.c (.fn 6 [])) [.t 21,.t 22]⟩,⟨some 1,none,.mv (.t 23)⟩] [0,1,5]) (.seq (.region [⟨some 24,none,.mv (.t 1)⟩,⟨some 25,none,.bin .lss (.t 24) (.c (.d true (.int .i64 0)))⟩] [0,1,5,25]) (.cond (.t 25) (.seq (.region [⟨some 4,none,.mv (.c (.d true (.int .i64 (-1))))⟩] [4]) (.ret)) (.skip))))) (.region [⟨some 16,none,.mv (.t 5)⟩,⟨some 17,none,.bin .add (.t 16) (.c (.d true (.int .i64 1)))⟩,⟨some 5,none,.mv (.t 17)⟩] [0,1,5])))))) (.seq (.region [⟨some 26,none,.mv (.t 1)⟩,⟨some 4,none,.mv (.t 26)⟩] [4]) (.ret)))))
theorem ok28 : FnOk Tryz.prog Tryz.f28 27 keep28 ac28 [.t 4]:=by
  refine ⟨?_,?_,?_,?_,?_⟩ <;> kernel_rfl
def keep29 : Nat → List Nat
  | 0 => [0]
  | 1 => [0,3]
  | 2 => [0,3,4]
  | 3 => [0,3,4,11]
  | 4 => [0,3,4]
  | 5 => [0,3,4]
  | 6 => [2]
  | _ => []
def ac29 : AC:=.seq (.region [⟨some 2,none,.own 28 4⟩] [0]) (.seq (.region [⟨some 5,none,.mv (.t 0)⟩,⟨some 6,none,.len (.t 5)⟩,⟨some 7,none,.mks 28 4 56 [.d true (.int .i64 0),.d true (.int .i64 0),.d true (.str ⟨#[]⟩),.nil] (.t 6) (.t 6)⟩,⟨some 3,none,.mv (.t 7)⟩] [0,3]) (.seq (.seq (.region [⟨some 4,none,.mv (.c (.d true (.int .i64 0)))⟩] [0,3,4]) (.block 0 (.loop (.seq (.seq (.region [⟨some 8,none,.mv (.t 4)⟩,⟨some 9,none,.mv (.t 0)⟩,⟨some 10,none,.len (.t 9)⟩,⟨some 11,none,.bin .lss (.t 8) (.t 10)⟩] [0,3,4,11]) (.cond (.t 11) (.skip) (.exit 0))) (.seq (.block 1 (.region [⟨some 14,none,.mv (.t 3)⟩,⟨some 15,none,.mv (.t 4)⟩,⟨some 16,none,.mv (.t 0)⟩,⟨some 17,none,.mv (.t 4)⟩,⟨some 18,none,.ia 4 (.t 16) (.t 17)⟩,⟨some 19,none,.ld (some 4) (.t 18)⟩,⟨some 20,none,.call (.c (.fn 8 [])) [.t 19]⟩,⟨some 21,none,.ia 4 (.t 14) (.t 15)⟩,⟨none,none,.st 4 (.t 21) (.t 20)⟩] [0,3,4])) (.region [⟨some 12,none,.mv (.t 4)⟩,⟨some 13,none,.bin .add (.t 12) (.c (.d true (.int .i64 1)))⟩,⟨some 4,none,.mv (.t 13)⟩] [0,3,4])))))) (.seq (.region [⟨some 22,none,.mv (.t 3)⟩,⟨some 2,none,.mv (.t 22)⟩] [2]) (.ret))))
theorem ok29 : FnOk Tryz.prog Tryz.f29 23 keep29 ac29 [.t 2]:=by
  refine ⟨?_,?_,?_,?_,?_⟩ <;> kernel_rfl
def keep30 : Nat → List Nat
  | 0 => [0,1]
  | 1 => [0,1,10]
  | 2 => [4]
  | 3 => [0,1,5]
  | 4 => [0,1,5,14]
  | 5 => [0,1,5]
  | 6 => [0,1,5,26]
  | 7 => [4]
  | 8 => [4]
  | _ => []
def ac30 : AC:=.seq (.region [⟨some 4,none,.mv (.c (.d true (.bool false)))⟩] [0,1]) (.seq (.seq (.region [⟨some 6,none,.mv (.t 0)⟩,⟨some 7,none,.len (.t 6)⟩,⟨some 8,none,.mv (.t 1)⟩,⟨some 9,none,.len (.t 8)⟩,⟨some 10,none,.bin .neq (.t 7) (.t 9)⟩] [0,1,10]) (.cond (.t 10) (.seq (.region [⟨some 4,none,.mv (.c (.d true (.bool false)))⟩] [4]) (.ret)) (.skip))) (.seq (.seq (.region [⟨some 5,none,.mv (.c (.d true (.int .i64 0)))⟩] [0,1,5]) (.block 0 (.loop (.seq (.seq (.region [⟨some 11,none,.mv (.t 5)⟩,⟨some 12,none,.mv (.t 0)⟩,⟨some 13,none,.len (.t 12)⟩,⟨some 14,none,.bin .lss (.t 11) (.t 13)⟩] [0,1,5,14]) (.cond (.t 14) (.skip) (.exit 0))) (.seq (.block 1 (.seq (.draw [⟨some 17,none,.mv (.t 0)⟩,⟨some 18,none,.mv (.t 5)⟩,⟨some 19,none,.ia 4 (.t 17) (.t 18)⟩,⟨some 20,none,.ld (some 4) (.t 19)⟩,⟨some 21,none,.mv (.t 1)⟩,⟨some 22,none,.mv (.t 5)⟩,⟨some 23,none,.ia 4 (.t 21) (.t 22)⟩,⟨some 24,none,.ld (some 4) (.t 23)⟩,⟨some 25,none,.call (.c (.fn 10 [])) [.t 20,.t 24]⟩,⟨some 26,none,.not (.t 25)⟩] [0,1,5,26]) (.cond (.t 26) (.seq (.region [⟨some 4,none,.mv (.c (.d true (.bool false)))⟩] [4]) (.ret)) (.skip)))) (.region [⟨some 15,none,.mv (.t 5)⟩,⟨some 16,none,.bin .add (.t 15) (.c (.d true (.int .i64 1)))⟩,⟨some 5,none,.mv (.t 16)⟩] [0,1,5])))))) (.seq (.region [⟨some 4,none,.mv (.c (.d true (.bool true)))⟩] [4]) (.ret))))
theorem ok30 : FnOk Tryz.prog Tryz.f30 27 keep30 ac30 [.t 4]:=by
  refine ⟨?_,?_,?_,?_,?_⟩ <;> kernel_rfl
def keep32 : Nat → List Nat
  | 0 => [0,1]
  | 1 => [0,1,5]
  | 2 => [0,1,5,9]
  | 3 => [0,1,5]
  | 4 => [0,1,5,18]
  | 5 => [4]
  | 6 => [0,1,5]
  | 7 => [0,1,5,27]
  | 8 => [4]
  | 9 => [0,1,5]
  | 10 => [0,1,5,37]
  | 11 => [4]
  | 12 => [0,1,5]
  | 13 => [0,1,5]
  | 14 => [0,1,5,48]
  | 15 => [4]
  | 16 => [4]
  | _ => []
def ac32 : AC:=.seq (.region [⟨some 4,none,.mv (.c (.d true (.int .i64 0)))⟩] [0,1]) (.seq (.seq (.region [⟨some 5,none,.mv (.c (.d true (.int .i64 0)))⟩] [0,1,5]) (.block 0 (.loop (.seq (.seq (.region [⟨some 6,none,.mv (.t 5)⟩,⟨some 7,none,.mv (.t 0)⟩,⟨some 8,none,.len (.t 7)⟩,⟨some 9,none,.bin .lss (.t 6) (.t 8)⟩] [0,1,5,9]) (.cond (.t 9) (.skip) (.exit 0))) (.seq (.block 1 (.seq (.seq (.region [⟨some 12,none,.mv (.t 0)⟩,⟨some 13,none,.mv (.t 5)⟩,⟨some 14,none,.ia 4 (.t 12) (.t 13)⟩,⟨some 15,none,.fa 0 (.t 14)⟩,⟨some 16,none,.ld none (.t 15)⟩,⟨some 17,none,.mv (.t 1)⟩,⟨some 18,none,.bin .neq (.t 16) (.t 17)⟩] [0,1,5,18]) (.cond (.t 18) (.seq (.region [⟨some 4,none,.mv (.c (.d true (.int .i64 (-1))))⟩] [4]) (.ret)) (.skip))) (.seq (.region [⟨some 19,none,.mv (.t 1)⟩,⟨some 20,none,.bin .add (.t 19) (.c (.d true (.int .i64 1)))⟩,⟨some 1,none,.mv (.t 20)⟩] [0,1,5]) (.seq (.seq (.region [⟨some 21,none,.mv (.t 0)⟩,⟨some 22,none,.mv (.t 5)⟩,⟨some 23,none,.ia 4 (.t 21) (.t 22)⟩,⟨some 24,none,.fa 1 (.t 23)⟩,⟨some 25,none,.ld none (.t 24)⟩,⟨some 26,none,.mv (.t 1)⟩,⟨some 27,none,.bin .neq (.t 25) (.t 26)⟩] [0,1,5,27]) (.cond (.t 27) (.seq (.region [⟨some 4,none,.mv (.c (.d true (.int .i64 (-1))))⟩] [4]) (.ret)) (.skip))) (.seq (.region [⟨some 28,none,.mv (.t 1)⟩,⟨some 29,none,.bin .add (.t 28) (.c (.d true (.int .i64 1)))⟩,⟨some 1,none,.mv (.t 29)⟩] [0,1,5]) (.seq (.seq (.draw [⟨some 30,none,.mv (.t 0)⟩,⟨some 31,none,.mv (.t 5)⟩,⟨some 32,none,.ia 4 (.t 30) (.t 31)⟩,⟨some 33,none,.fa 2 (.t 32)⟩,⟨some 34,none,.ld none (.t 33)⟩,⟨some 35,none,.mv (.t 1)⟩,⟨some 36,none,.call (.c (.fn 64 [])) [.t 35]⟩,⟨some 37,none,.bin .neq (.t 34) (.t 36)⟩] [0,1,5,37]) (.cond (.t 37) (.seq (.region [⟨some 4,none,.mv (.c (.d true (.int .i64 (-1))))⟩] [4]) (.ret)) (.skip))) (.seq (.region [⟨some 38,none,.mv (.t 1)⟩,⟨some 39,none,.bin .add (.t 38) (.c (.d true (.int .i64 1)))⟩,⟨some 1,none,.mv (.t 39)⟩] [0,1,5]) (.seq (.region [⟨some 40,none,.mv (.t 0)⟩,⟨some 41,none,.mv (.t 5)⟩,⟨some 42,none,.ia 4 (.t 40) (.t 41)⟩,⟨some 43,none,.fa 3 (.t 42)⟩,⟨some 44,none,.ld none (.t 43)⟩,⟨some 45,none,.mv (.t 1)⟩,⟨some 46,none,.call (.c (.fn 32 [])) [.t 44,.t 45]⟩,⟨some 1,none,.mv (.t 46)⟩] [0,1,5]) (.seq (.region [⟨some 47,none,.mv (.t 1)⟩,⟨some 48,none,.bin .lss (.t 47) (.c (.d true (.int .i64 0)))⟩] [0,1,5,48]) (.cond (.t 48) (.seq (.region [⟨some 4,none,.mv (.c (.d true (.int .i64 (-1))))⟩] [4]) (.ret)) (.skip))))))))))) (.region [⟨some 10,none,.mv (.t 5)⟩,⟨some 11,none,.bin .add (.t 10) (.c (.d true (.int .i64 1)))⟩,⟨some 5,none,.mv (.t 11)⟩] [0,1,5])))))) (.seq (.region [⟨some 49,none,.mv (.t 1)⟩,⟨some 4,none,.mv (.t 49)⟩] [4]) (.ret)))
theorem ok32 : FnOk Tryz.prog Tryz.f32 50 keep32 ac32 [.t 4]:=by
  refine ⟨?_,?_,?_,?_,?_⟩ <;> kernel_rfl
def keep33 : Nat → List Nat
  | 0 => [2,3,4]
  | 1 => [3,4,23]
  | 2 => [4,5]
  | 3 => [4,5]
  | 1000001 => [1]
  | _ => []
def ac33 : AC:=.seq (.region [⟨some 2,none,.box (.t 0)⟩,⟨some 3,none,.box (.t 1)⟩,⟨some 4,none,.alloc [.d true (.int .i64 0),.d true (.int .i64 0),.d true (.str ⟨#[]⟩),.nil]⟩,⟨some 5,none,.mv (.c (.d true (.bool false)))⟩] [2,3,4]) (.seq (.seq (.tree (.take ⟨some 6,none,.ld (some 4) (.t 3)⟩ (.br (.cons ⟨some 7,none,.call (.c (.fn 62 [])) [.t 6]⟩ (.take ⟨some 8,none,.not (.t 7)⟩ (.take ⟨some 9,none,.mv (.t 8)⟩ (.take ⟨some 10,some (9,false),.fa 0 (.t 3)⟩ (.take ⟨some 11,some (9,false),.ld none (.t 10)⟩ (.take ⟨some 12,some (9,false),.bin .neq (.t 11) (.c (.d true (.int .i64 8)))⟩ (.take ⟨some 13,none,.pick (.t 9) (.c (.d true (.bool true))) (.t 12)⟩ (.take ⟨some 14,none,.mv (.t 13)⟩ (.take ⟨some 15,some (14,false),.ld (some 4) (.t 2)⟩ (.take ⟨some 16,some (14,false),.fa 3 (.t 3)⟩ (.take ⟨some 17,some (14,false),.ld none (.t 16)⟩ (.take ⟨some 18,some (14,false),.ia 4 (.t 17) (.c (.d true (.int .i64 0)))⟩ (.take ⟨some 19,some (14,false),.ld (some 4) (.t 18)⟩ (.br (.cons ⟨some 20,some (14,false),.call (.c (.fn 65 [])) [.t 19]⟩ (.br (.cons ⟨some 21,some (14,false),.call (.c (.fn 37 [])) [.t 15,.t 20]⟩ (.take ⟨some 22,some (14,false),.not (.t 21)⟩ (.take ⟨some 23,none,.pick (.t 14) (.c (.d true (.bool true))) (.t 22)⟩ (.done))) (.nil))) (.nil))))))))))))))) (.nil)))) [3,4,23]) (.cond (.t 23) (.seq (.region [⟨some 24,none,.bld [.d true (.int .i64 0),.d true (.int .i64 0),.d true (.str ⟨#[]⟩),.nil] []⟩,⟨none,none,.st 4 (.t 4) (.t 24)⟩,⟨some 5,none,.mv (.c (.d true (.bool false)))⟩] [4,5]) (.ret)) (.skip))) (.seq (.region [⟨some 25,none,.fa 3 (.t 3)⟩,⟨some 26,none,.ld none (.t 25)⟩,⟨some 27,none,.ia 4 (.t 26) (.c (.d true (.int .i64 1)))⟩,⟨some 28,none,.ld (some 4) (.t 27)⟩,⟨some 29,none,.call (.c (.fn 66 [])) [.t 28]⟩,⟨none,none,.st 4 (.t 4) (.t 29)⟩,⟨some 5,none,.mv (.c (.d true (.bool true)))⟩] [4,5]) (.ret)))
theorem ok33 : FnOk Tryz.prog Tryz.f33 30 keep33 ac33 [.c 4 (some 4),.t 5]:=by
  refine ⟨?_,?_,?_,?_,?_⟩ <;> kernel_rfl
def keep34 : Nat → List Nat
  | 0 => [1,2]
  | 1 => [2]
  | _ => []
def ac34 : AC:=.seq (.region [⟨some 1,none,.box (.t 0)⟩,⟨some 2,none,.alloc [.d true (.int .i64 0),.d true (.int .i64 0),.d true (.str ⟨#[]⟩),.nil]⟩] [1,2]) (.seq (.region [⟨some 3,none,.ld (some 4) (.t 1)⟩,⟨some 4,none,.call (.c (.fn 66 [])) [.t 3]⟩,⟨some 5,none,.bs 28 4 [.t 4]⟩,⟨some 6,none,.bld [.d true (.int .i64 0),.d true (.int .i64 0),.d true (.str ⟨#[]⟩),.nil] [(0,1,.c (.d true (.int .i64 4))),(3,1,.t 5)]⟩,⟨some 7,none,.call (.c (.fn 67 [])) [.t 6]⟩,⟨none,none,.st 4 (.t 2) (.t 7)⟩] [2]) (.ret))
theorem ok34 : FnOk Tryz.prog Tryz.f34 8 keep34 ac34 [.c 2 (some 4)]:=by
  refine ⟨?_,?_,?_,?_,?_⟩ <;> kernel_rfl
def keep35 : Nat → List Nat
  | 0 => [0,2]
  | 1 => [2]
  | _ => []
def ac35 : AC:=.seq (.region [⟨some 2,none,.alloc [.d true (.int .i64 0),.d true (.int .i64 0),.d true (.str ⟨#[]⟩),.nil]⟩] [0,2]) (.seq (.region [⟨some 3,none,.mv (.t 0)⟩,⟨some 4,none,.bld [.d true (.int .i64 0),.d true (.int .i64 0),.d true (.str ⟨#[]⟩),.nil] [(0,1,.c (.d true (.int .i64 1))),(1,1,.t 3)]⟩,⟨some 5,none,.call (.c (.fn 67 [])) [.t 4]⟩,⟨none,none,.st 4 (.t 2) (.t 5)⟩] [2]) (.ret))
theorem ok35 : FnOk Tryz.prog Tryz.f35 6 keep35 ac35 [.c 2 (some 4)]:=by
  refine ⟨?_,?_,?_,?_,?_⟩ <;> kernel_rfl
def keep36 : Nat → List Nat
  | 0 => [0]
  | 1 => [0,12]
  | 2 => [2]
  | 3 => [0,3]
  | 4 => [0,3,4]
  | 5 => [0,3,4,16]
  | 6 => [0,3,4]
  | 7 => [0,3,4,28]
  | 8 => [2]
  | 9 => [0,3,4]
  | 10 => [3,44]
  | 11 => [2]
  | 12 => [2]
  | _ => []
def ac36 : AC:=.seq (.region [⟨some 2,none,.mv (.c (.d true (.int .i64 0)))⟩] [0]) (.seq (.seq (.region [⟨some 5,none,.mv (.t 0)⟩,⟨some 6,none,.slen (.t 5)⟩,⟨some 7,none,.bin .lss (.t 6) (.c (.d true (.int .i64 1)))⟩,⟨some 8,none,.mv (.t 7)⟩,⟨some 9,some (8,false),.mv (.t 0)⟩,⟨some 10,some (8,false),.slen (.t 9)⟩,⟨some 11,some (8,false),.bin .gtr (.t 10) (.c (.d true (.int .i64 6)))⟩,⟨some 12,none,.pick (.t 8) (.c (.d true (.bool true))) (.t 11)⟩] [0,12]) (.cond (.t 12) (.seq (.region [⟨some 2,none,.mv (.c (.d true (.int .i64 (-1))))⟩] [2]) (.ret)) (.skip))) (.seq (.region [⟨some 3,none,.mv (.c (.d true (.int .i64 0)))⟩] [0,3]) (.seq (.seq (.region [⟨some 4,none,.mv (.c (.d true (.int .i64 0)))⟩] [0,3,4]) (.block 0 (.loop (.seq (.seq (.region [⟨some 13,none,.mv (.t 4)⟩,⟨some 14,none,.mv (.t 0)⟩,⟨some 15,none,.slen (.t 14)⟩,⟨some 16,none,.bin .lss (.t 13) (.t 15)⟩] [0,3,4,16]) (.cond (.t 16) (.skip) (.exit 0))) (.seq (.block 1 (.seq (.seq (.region [⟨some 19,none,.mv (.t 0)⟩,⟨some 20,none,.mv (.t 4)⟩,⟨some 21,none,.ix (.t 19) (.t 20)⟩,⟨some 22,none,.bin .lss (.t 21) (.c (.d true (.int .u8 48)))⟩,⟨some 23,none,.mv (.t 22)⟩,⟨some 24,some (23,false),.mv (.t 0)⟩,⟨some 25,some (23,false),.mv (.t 4)⟩,⟨some 26,some (23,false),.ix (.t 24) (.t 25)⟩,⟨some 27,some (23,false),.bin .gtr (.t 26) (.c (.d true (.int .u8 57)))⟩,⟨some 28,none,.pick (.t 23) (.c (.d true (.bool true))) (.t 27)⟩] [0,3,4,28]) (.cond (.t 28) (.seq (.region [⟨some 2,none,.mv (.c (.d true (.int .i64 (-1))))⟩] [2]) (.ret)) (.skip))) (.region [⟨some 29,none,.mv (.t 3)⟩,⟨some 30,none,.bin .mul (.c (.d true (.int .i64 10))) (.t 29)⟩,⟨some 31,none,.mv (.t 0)⟩,⟨some 32,none,.mv (.t 4)⟩,⟨some 33,none,.ix (.t 31) (.t 32)⟩,⟨some 34,none,.cvi .i64 (.t 33)⟩,⟨some 35,none,.bin .add (.t 30) (.t 34)⟩,⟨some 36,none,.bin .sub (.t 35) (.c (.d true (.int .i64 48)))⟩,⟨some 3,none,.mv (.t 36)⟩] [0,3,4]))) (.region [⟨some 17,none,.mv (.t 4)⟩,⟨some 18,none,.bin .add (.t 17) (.c (.d true (.int .i64 1)))⟩,⟨some 4,none,.mv (.t 18)⟩] [0,3,4])))))) (.seq (.seq (.region [⟨some 37,none,.mv (.t 3)⟩,⟨some 38,none,.call (.c (.fn 68 [])) [.t 37]⟩,⟨some 39,none,.mv (.t 0)⟩,⟨some 40,none,.bin .neq (.t 38) (.t 39)⟩,⟨some 41,none,.mv (.t 40)⟩,⟨some 42,some (41,false),.mv (.t 3)⟩,⟨some 43,some (41,false),.bin .gtr (.t 42) (.c (.d true (.int .i64 100000)))⟩,⟨some 44,none,.pick (.t 41) (.c (.d true (.bool true))) (.t 43)⟩] [3,44]) (.cond (.t 44) (.seq (.region [⟨some 2,none,.mv (.c (.d true (.int .i64 (-1))))⟩] [2]) (.ret)) (.skip))) (.seq (.region [⟨some 45,none,.mv (.t 3)⟩,⟨some 2,none,.mv (.t 45)⟩] [2]) (.ret))))))
theorem ok36 : FnOk Tryz.prog Tryz.f36 46 keep36 ac36 [.t 2]:=by
  refine ⟨?_,?_,?_,?_,?_⟩ <;> kernel_rfl
def keep37 : Nat → List Nat
  | 0 => [2,3]
  | 1 => [2,3,33]
  | 2 => [4]
  | 3 => [2,3,5]
  | 4 => [2,3,5,38]
  | 5 => [2,3,5]
  | 6 => [2,3,5,52]
  | 7 => [4]
  | 8 => [4]
  | _ => []
def ac37 : AC:=.seq (.region [⟨some 2,none,.box (.t 0)⟩,⟨some 3,none,.box (.t 1)⟩,⟨some 4,none,.mv (.c (.d true (.bool false)))⟩] [2,3]) (.seq (.seq (.region [⟨some 6,none,.fa 0 (.t 2)⟩,⟨some 7,none,.ld none (.t 6)⟩,⟨some 8,none,.fa 0 (.t 3)⟩,⟨some 9,none,.ld none (.t 8)⟩,⟨some 10,none,.bin .neq (.t 7) (.t 9)⟩,⟨some 11,none,.mv (.t 10)⟩,⟨some 12,some (11,false),.fa 1 (.t 2)⟩,⟨some 13,some (11,false),.ld none (.t 12)⟩,⟨some 14,some (11,false),.fa 1 (.t 3)⟩,⟨some 15,some (11,false),.ld none (.t 14)⟩,⟨some 16,some (11,false),.bin .neq (.t 13) (.t 15)⟩,⟨some 17,none,.pick (.t 11) (.c (.d true (.bool true))) (.t 16)⟩,⟨some 18,none,.mv (.t 17)⟩,⟨some 19,some (18,false),.fa 2 (.t 2)⟩,⟨some 20,some (18,false),.ld none (.t 19)⟩,⟨some 21,some (18,false),.fa 2 (.t 3)⟩,⟨some 22,some (18,false),.ld none (.t 21)⟩,⟨some 23,some (18,false),.bin .neq (.t 20) (.t 22)⟩,⟨some 24,none,.pick (.t 18) (.c (.d true (.bool true))) (.t 23)⟩,⟨some 25,none,.mv (.t 24)⟩,⟨some 26,some (25,false),.fa 3 (.t 2)⟩,⟨some 27,some (25,false),.ld none (.t 26)⟩,⟨some 28,some (25,false),.len (.t 27)⟩,⟨some 29,some (25,false),.fa 3 (.t 3)⟩,⟨some 30,some (25,false),.ld none (.t 29)⟩,⟨some 31,some (25,false),.len (.t 30)⟩,⟨some 32,some (25,false),.bin .neq (.t 28) (.t 31)⟩,⟨some 33,none,.pick (.t 25) (.c (.d true (.bool true))) (.t 32)⟩] [2,3,33]) (.cond (.t 33) (.seq (.region [⟨some 4,none,.mv (.c (.d true (.bool false)))⟩] [4]) (.ret)) (.skip))) (.seq (.seq (.region [⟨some 5,none,.mv (.c (.d true (.int .i64 0)))⟩] [2,3,5]) (.block 0 (.loop (.seq (.seq (.region [⟨some 34,none,.mv (.t 5)⟩,⟨some 35,none,.fa 3 (.t 2)⟩,⟨some 36,none,.ld none (.t 35)⟩,⟨some 37,none,.len (.t 36)⟩,⟨some 38,none,.bin .lss (.t 34) (.t 37)⟩] [2,3,5,38]) (.cond (.t 38) (.skip) (.exit 0))) (.seq (.block 1 (.seq (.draw [⟨some 41,none,.fa 3 (.t 2)⟩,⟨some 42,none,.ld none (.t 41)⟩,⟨some 43,none,.mv (.t 5)⟩,⟨some 44,none,.ia 4 (.t 42) (.t 43)⟩,⟨some 45,none,.ld (some 4) (.t 44)⟩,⟨some 46,none,.fa 3 (.t 3)⟩,⟨some 47,none,.ld none (.t 46)⟩,⟨some 48,none,.mv (.t 5)⟩,⟨some 49,none,.ia 4 (.t 47) (.t 48)⟩,⟨some 50,none,.ld (some 4) (.t 49)⟩,⟨some 51,none,.call (.c (.fn 37 [])) [.t 45,.t 50]⟩,⟨some 52,none,.not (.t 51)⟩] [2,3,5,52]) (.cond (.t 52) (.seq (.region [⟨some 4,none,.mv (.c (.d true (.bool false)))⟩] [4]) (.ret)) (.skip)))) (.region [⟨some 39,none,.mv (.t 5)⟩,⟨some 40,none,.bin .add (.t 39) (.c (.d true (.int .i64 1)))⟩,⟨some 5,none,.mv (.t 40)⟩] [2,3,5])))))) (.seq (.region [⟨some 4,none,.mv (.c (.d true (.bool true)))⟩] [4]) (.ret))))
theorem ok37 : FnOk Tryz.prog Tryz.f37 53 keep37 ac37 [.t 4]:=by
  refine ⟨?_,?_,?_,?_,?_⟩ <;> kernel_rfl
def keep38 : Nat → List Nat
  | 0 => [2,3,4]
  | 1 => [3,4,35]
  | 2 => [4,5]
  | 3 => [4,5]
  | _ => []
def ac38 : AC:=.seq (.region [⟨some 2,none,.box (.t 0)⟩,⟨some 3,none,.box (.t 1)⟩,⟨some 4,none,.alloc [.d true (.int .i64 0),.d true (.int .i64 0),.d true (.str ⟨#[]⟩),.nil]⟩,⟨some 5,none,.mv (.c (.d true (.bool false)))⟩] [2,3,4]) (.seq (.seq (.draw [⟨some 6,none,.fa 0 (.t 2)⟩,⟨some 7,none,.ld none (.t 6)⟩,⟨some 8,none,.bin .neq (.t 7) (.c (.d true (.int .i64 4)))⟩,⟨some 9,none,.mv (.t 8)⟩,⟨some 10,some (9,false),.ld (some 4) (.t 2)⟩,⟨some 11,some (9,false),.call (.c (.fn 59 [])) [.t 10]⟩,⟨some 12,some (9,false),.not (.t 11)⟩,⟨some 13,none,.pick (.t 9) (.c (.d true (.bool true))) (.t 12)⟩,⟨some 14,none,.mv (.t 13)⟩,⟨some 15,some (14,false),.fa 0 (.t 3)⟩,⟨some 16,some (14,false),.ld none (.t 15)⟩,⟨some 17,some (14,false),.bin .neq (.t 16) (.c (.d true (.int .i64 8)))⟩,⟨some 18,none,.pick (.t 14) (.c (.d true (.bool true))) (.t 17)⟩,⟨some 19,none,.mv (.t 18)⟩,⟨some 20,some (19,false),.ld (some 4) (.t 3)⟩,⟨some 21,some (19,false),.call (.c (.fn 59 [])) [.t 20]⟩,⟨some 22,some (19,false),.not (.t 21)⟩,⟨some 23,none,.pick (.t 19) (.c (.d true (.bool true))) (.t 22)⟩,⟨some 24,none,.mv (.t 23)⟩,⟨some 25,some (24,false),.fa 3 (.t 3)⟩,⟨some 26,some (24,false),.ld none (.t 25)⟩,⟨some 27,some (24,false),.ia 4 (.t 26) (.c (.d true (.int .i64 0)))⟩,⟨some 28,some (24,false),.ld (some 4) (.t 27)⟩,⟨some 29,some (24,false),.fa 3 (.t 2)⟩,⟨some 30,some (24,false),.ld none (.t 29)⟩,⟨some 31,some (24,false),.ia 4 (.t 30) (.c (.d true (.int .i64 0)))⟩,⟨some 32,some (24,false),.ld (some 4) (.t 31)⟩,⟨some 33,some (24,false),.call (.c (.fn 24 [])) [.t 28,.t 32]⟩,⟨some 34,some (24,false),.not (.t 33)⟩,⟨some 35,none,.pick (.t 24) (.c (.d true (.bool true))) (.t 34)⟩] [3,4,35]) (.cond (.t 35) (.seq (.region [⟨some 36,none,.bld [.d true (.int .i64 0),.d true (.int .i64 0),.d true (.str ⟨#[]⟩),.nil] []⟩,⟨none,none,.st 4 (.t 4) (.t 36)⟩,⟨some 5,none,.mv (.c (.d true (.bool false)))⟩] [4,5]) (.ret)) (.skip))) (.seq (.region [⟨some 37,none,.fa 3 (.t 3)⟩,⟨some 38,none,.ld none (.t 37)⟩,⟨some 39,none,.ia 4 (.t 38) (.c (.d true (.int .i64 1)))⟩,⟨some 40,none,.ld (some 4) (.t 39)⟩,⟨some 41,none,.call (.c (.fn 43 [])) [.t 40]⟩,⟨none,none,.st 4 (.t 4) (.t 41)⟩,⟨some 5,none,.mv (.c (.d true (.bool true)))⟩] [4,5]) (.ret)))
theorem ok38 : FnOk Tryz.prog Tryz.f38 42 keep38 ac38 [.c 4 (some 4),.t 5]:=by
  refine ⟨?_,?_,?_,?_,?_⟩ <;> kernel_rfl
def keep39 : Nat → List Nat
  | 0 => [1,2]
  | 1 => [2]
  | _ => []
def ac39 : AC:=.seq (.region [⟨some 1,none,.box (.t 0)⟩,⟨some 2,none,.alloc [.d true (.int .i64 0),.d true (.int .i64 0),.d true (.str ⟨#[]⟩),.nil]⟩] [1,2]) (.seq (.region [⟨some 3,none,.ld (some 4) (.t 1)⟩,⟨some 4,none,.bs 28 4 [.t 3]⟩,⟨some 5,none,.bld [.d true (.int .i64 0),.d true (.int .i64 0),.d true (.str ⟨#[]⟩),.nil] [(0,1,.c (.d true (.int .i64 4))),(3,1,.t 4)]⟩,⟨some 6,none,.call (.c (.fn 69 [])) [.t 5]⟩,⟨none,none,.st 4 (.t 2) (.t 6)⟩] [2]) (.ret))
theorem ok39 : FnOk Tryz.prog Tryz.f39 7 keep39 ac39 [.c 2 (some 4)]:=by
  refine ⟨?_,?_,?_,?_,?_⟩ <;> kernel_rfl
def keep40 : Nat → List Nat
  | 0 => [0,2]
  | 1 => [2]
  | _ => []
def ac40 : AC:=.seq (.region [⟨some 2,none,.alloc [.d true (.int .i64 0),.d true (.int .i64 0),.d true (.str ⟨#[]⟩),.nil]⟩] [0,2]) (.seq (.region [⟨some 3,none,.mv (.t 0)⟩,⟨some 4,none,.bld [.d true (.int .i64 0),.d true (.int .i64 0),.d true (.str ⟨#[]⟩),.nil] [(0,1,.c (.d true (.int .i64 1))),(1,1,.t 3)]⟩,⟨some 5,none,.call (.c (.fn 69 [])) [.t 4]⟩,⟨none,none,.st 4 (.t 2) (.t 5)⟩] [2]) (.ret))
theorem ok40 : FnOk Tryz.prog Tryz.f40 6 keep40 ac40 [.c 2 (some 4)]:=by
  refine ⟨?_,?_,?_,?_,?_⟩ <;> kernel_rfl
def keep41 : Nat → List Nat
  | 0 => [1,2,3]
  | 1 => [1,2,3,13]
  | 2 => [2,3,4]
  | 3 => [2,3,4]
  | 1000003 => [1]
  | _ => []
def ac41 : AC:=.seq (.region [⟨some 1,none,.box (.t 0)⟩,⟨some 2,none,.alloc [.d true (.int .i64 0),.d true (.int .i64 0),.d true (.str ⟨#[]⟩),.nil]⟩,⟨some 3,none,.alloc [.d true (.int .i64 0),.d true (.int .i64 0),.d true (.str ⟨#[]⟩),.nil]⟩,⟨some 4,none,.mv (.c (.d true (.bool false)))⟩] [1,2,3]) (.seq (.seq (.region [⟨some 5,none,.fa 0 (.t 1)⟩,⟨some 6,none,.ld none (.t 5)⟩,⟨some 7,none,.bin .neq (.t 6) (.c (.d true (.int .i64 3)))⟩,⟨some 8,none,.mv (.t 7)⟩,⟨some 9,some (8,false),.fa 3 (.t 1)⟩,⟨some 10,some (8,false),.ld none (.t 9)⟩,⟨some 11,some (8,false),.len (.t 10)⟩,⟨some 12,some (8,false),.bin .neq (.t 11) (.c (.d true (.int .i64 2)))⟩,⟨some 13,none,.pick (.t 8) (.c (.d true (.bool true))) (.t 12)⟩] [1,2,3,13]) (.cond (.t 13) (.seq (.region [⟨some 14,none,.bld [.d true (.int .i64 0),.d true (.int .i64 0),.d true (.str ⟨#[]⟩),.nil] []⟩,⟨some 15,none,.bld [.d true (.int .i64 0),.d true (.int .i64 0),.d true (.str ⟨#[]⟩),.nil] []⟩,⟨none,none,.st 4 (.t 2) (.t 14)⟩,⟨none,none,.st 4 (.t 3) (.t 15)⟩,⟨some 4,none,.mv (.c (.d true (.bool false)))⟩] [2,3,4]) (.ret)) (.skip))) (.seq (.tree (.take ⟨some 16,none,.fa 3 (.t 1)⟩ (.take ⟨some 17,none,.ld none (.t 16)⟩ (.take ⟨some 18,none,.ia 4 (.t 17) (.c (.d true (.int .i64 0)))⟩ (.take ⟨some 19,none,.ld (some 4) (.t 18)⟩ (.take ⟨some 20,none,.fa 3 (.t 1)⟩ (.take ⟨some 21,none,.ld none (.t 20)⟩ (.take ⟨some 22,none,.ia 4 (.t 21) (.c (.d true (.int .i64 1)))⟩ (.take ⟨some 23,none,.ld (some 4) (.t 22)⟩ (.br (.cons ⟨none,none,.st 4 (.t 2) (.t 19)⟩ (.br (.cons ⟨none,none,.st 4 (.t 3) (.t 23)⟩ (.take ⟨some 4,none,.mv (.c (.d true (.bool true)))⟩ (.done)) (.nil))) (.nil))))))))))) [2,3,4]) (.ret)))
theorem ok41 : FnOk Tryz.prog Tryz.f41 24 keep41 ac41 [.c 2 (some 4),.c 3 (some 4),.t 4]:=by
  refine ⟨?_,?_,?_,?_,?_⟩ <;> kernel_rfl
def keep43 : Nat → List Nat
  | 0 => [1,2]
  | 1 => [1,2]
  | 2 => [2]
  | _ => []
def ac43 : AC:=.seq (.region [⟨some 1,none,.box (.t 0)⟩,⟨some 2,none,.alloc [.d true (.int .i64 0),.d true (.int .i64 0),.d true (.str ⟨#[]⟩),.nil]⟩] [1,2]) (.seq (.region [⟨some 3,none,.fa 3 (.t 1)⟩,⟨some 4,none,.ld none (.t 3)⟩,⟨some 5,none,.call (.c (.fn 72 [])) [.t 4]⟩,⟨some 6,none,.fa 3 (.t 1)⟩,⟨none,none,.st 1 (.t 6) (.t 5)⟩] [1,2]) (.seq (.region [⟨some 7,none,.ld (some 4) (.t 1)⟩,⟨none,none,.st 4 (.t 2) (.t 7)⟩] [2]) (.ret)))
theorem ok43 : FnOk Tryz.prog Tryz.f43 8 keep43 ac43 [.c 2 (some 4)]:=by
  refine ⟨?_,?_,?_,?_,?_⟩ <;> kernel_rfl
def keep46 : Nat → List Nat
  | 0 => [2,3,4]
  | 1 => [4]
  | _ => []
def ac46 : AC:=.seq (.region [⟨some 2,none,.box (.t 0)⟩,⟨some 3,none,.box (.t 1)⟩,⟨some 4,none,.alloc [.d true (.int .i64 0),.d true (.int .i64 0),.d true (.str ⟨#[]⟩),.nil]⟩] [2,3,4]) (.seq (.region [⟨some 5,none,.ld (some 4) (.t 2)⟩,⟨some 6,none,.ld (some 4) (.t 3)⟩,⟨some 7,none,.bs 28 4 [.t 5,.t 6]⟩,⟨some 8,none,.bld [.d true (.int .i64 0),.d true (.int .i64 0),.d true (.str ⟨#[]⟩),.nil] [(0,1,.c (.d true (.int .i64 8))),(3,1,.t 7)]⟩,⟨some 9,none,.call (.c (.fn 69 [])) [.t 8]⟩,⟨none,none,.st 4 (.t 4) (.t 9)⟩] [4]) (.ret))
theorem ok46 : FnOk Tryz.prog Tryz.f46 10 keep46 ac46 [.c 4 (some 4)]:=by
  refine ⟨?_,?_,?_,?_,?_⟩ <;> kernel_rfl
def keep47 : Nat → List Nat
  | 0 => [2,3,4]
  | 1 => [4]
  | _ => []
def ac47 : AC:=.seq (.region [⟨some 2,none,.box (.t 0)⟩,⟨some 3,none,.box (.t 1)⟩,⟨some 4,none,.alloc [.d true (.int .i64 0),.d true (.int .i64 0),.d true (.str ⟨#[]⟩),.nil]⟩] [2,3,4]) (.seq (.region [⟨some 5,none,.ld (some 4) (.t 2)⟩,⟨some 6,none,.ld (some 4) (.t 3)⟩,⟨some 7,none,.bs 28 4 [.t 5,.t 6]⟩,⟨some 8,none,.bld [.d true (.int .i64 0),.d true (.int .i64 0),.d true (.str ⟨#[]⟩),.nil] [(0,1,.c (.d true (.int .i64 3))),(3,1,.t 7)]⟩,⟨some 9,none,.call (.c (.fn 69 [])) [.t 8]⟩,⟨none,none,.st 4 (.t 4) (.t 9)⟩] [4]) (.ret))
theorem ok47 : FnOk Tryz.prog Tryz.f47 10 keep47 ac47 [.c 4 (some 4)]:=by
  refine ⟨?_,?_,?_,?_,?_⟩ <;> kernel_rfl
def keep48 : Nat → List Nat
  | 0 => [0,2]
  | 1 => [2]
  | _ => []
def ac48 : AC:=.seq (.region [⟨some 2,none,.alloc [.d true (.int .i64 0),.d true (.int .i64 0),.d true (.str ⟨#[]⟩),.nil]⟩] [0,2]) (.seq (.region [⟨some 3,none,.mv (.t 0)⟩,⟨some 4,none,.bld [.d true (.int .i64 0),.d true (.int .i64 0),.d true (.str ⟨#[]⟩),.nil] [(0,1,.c (.d true (.int .i64 2))),(2,1,.t 3)]⟩,⟨none,none,.st 4 (.t 2) (.t 4)⟩] [2]) (.ret))
theorem ok48 : FnOk Tryz.prog Tryz.f48 5 keep48 ac48 [.c 2 (some 4)]:=by
  refine ⟨?_,?_,?_,?_,?_⟩ <;> kernel_rfl
def keep49 : Nat → List Nat
  | 0 => [0,2]
  | 1 => [2]
  | _ => []
def ac49 : AC:=.seq (.region [⟨some 2,none,.alloc [.d true (.int .i64 0),.d true (.int .i64 0),.d true (.str ⟨#[]⟩),.nil]⟩] [0,2]) (.seq (.region [⟨some 3,none,.mv (.t 0)⟩,⟨some 4,none,.call (.c (.fn 77 [])) [.t 3]⟩,⟨some 5,none,.call (.c (.fn 48 [])) [.t 4]⟩,⟨none,none,.st 4 (.t 2) (.t 5)⟩] [2]) (.ret))
theorem ok49 : FnOk Tryz.prog Tryz.f49 6 keep49 ac49 [.c 2 (some 4)]:=by
  refine ⟨?_,?_,?_,?_,?_⟩ <;> kernel_rfl
def keep54 : Nat → List Nat
  | 0 => [0,1,2]
  | 1 => [0,1,2,14]
  | 2 => [6]
  | 3 => [1,2,15,16,17]
  | 4 => [1,2,15,16,17,18]
  | 5 => [1,2,7,8,15,16,17]
  | 6 => [1,2,8,9,15,16,17]
  | 7 => [1,2,15,16,17,30]
  | 8 => [6]
  | 9 => [1,2,15,16,17]
  | 10 => [6]
  | _ => []
def ac54 : AC:=.seq (.region [⟨some 6,none,.mv (.c (.d true (.bool false)))⟩] [0,1,2]) (.seq (.seq (.region [⟨some 10,none,.mv (.t 0)⟩,⟨some 11,none,.len (.t 10)⟩,⟨some 12,none,.mv (.t 1)⟩,⟨some 13,none,.len (.t 12)⟩,⟨some 14,none,.bin .neq (.t 11) (.t 13)⟩] [0,1,2,14]) (.cond (.t 14) (.seq (.region [⟨some 6,none,.mv (.c (.d true (.bool false)))⟩] [6]) (.ret)) (.skip))) (.seq (.seq (.region [⟨some 15,none,.mv (.t 0)⟩,⟨some 16,none,.len (.t 15)⟩,⟨some 17,none,.mv (.c (.d true (.int .i64 0)))⟩] [1,2,15,16,17]) (.block 0 (.loop (.seq (.region [⟨some 18,none,.bin .lss (.t 17) (.t 16)⟩] [1,2,15,16,17,18]) (.seq (.cond (.t 18) (.skip) (.exit 0)) (.seq (.block 1 (.seq (.region [⟨some 19,none,.mv (.t 17)⟩,⟨some 20,none,.ia 4 (.t 15) (.t 17)⟩,⟨some 21,none,.ld (some 4) (.t 20)⟩,⟨some 8,none,.alloc [.d true (.int .i64 0),.d true (.int .i64 0),.d true (.str ⟨#[]⟩),.nil]⟩,⟨some 7,none,.mv (.t 19)⟩,⟨none,none,.st 4 (.t 8) (.t 21)⟩] [1,2,7,8,15,16,17]) (.seq (.region [⟨some 22,none,.mv (.t 1)⟩,⟨some 23,none,.mv (.t 7)⟩,⟨some 24,none,.ia 4 (.t 22) (.t 23)⟩,⟨some 25,none,.ld (some 4) (.t 24)⟩,⟨some 9,none,.alloc [.d true (.int .i64 0),.d true (.int .i64 0),.d true (.str ⟨#[]⟩),.nil]⟩,⟨none,none,.st 4 (.t 9) (.t 25)⟩] [1,2,8,9,15,16,17]) (.seq (.region [⟨some 26,none,.mv (.t 2)⟩,⟨some 27,none,.ld (some 4) (.t 8)⟩,⟨some 28,none,.ld (some 4) (.t 9)⟩,⟨some 29,none,.call (.t 26) [.t 27,.t 28]⟩,⟨some 30,none,.not (.t 29)⟩] [1,2,15,16,17,30]) (.cond (.t 30) (.seq (.region [⟨some 6,none,.mv (.c (.d true (.bool false)))⟩] [6]) (.ret)) (.skip)))))) (.region [⟨some 31,none,.bin .add (.t 17) (.c (.d true (.int .i64 1)))⟩,⟨some 17,none,.mv (.t 31)⟩] [1,2,15,16,17]))))))) (.seq (.region [⟨some 6,none,.mv (.c (.d true (.bool true)))⟩] [6]) (.ret))))
theorem ok54 : FnOk Tryz.prog Tryz.f54 32 keep54 ac54 [.t 6]:=by
  refine ⟨?_,?_,?_,?_,?_⟩ <;> kernel_rfl
def keep55 : Nat → List Nat
  | 0 => [2,3,4]
  | 1 => [4]
  | _ => []
def ac55 : AC:=.seq (.region [⟨some 2,none,.box (.t 0)⟩,⟨some 3,none,.box (.t 1)⟩,⟨some 4,none,.alloc [.d true (.int .i64 0),.d true (.int .i64 0),.d true (.str ⟨#[]⟩),.nil]⟩] [2,3,4]) (.seq (.region [⟨some 5,none,.ld (some 4) (.t 2)⟩,⟨some 6,none,.ld (some 4) (.t 3)⟩,⟨some 7,none,.call (.c (.fn 79 [])) [.c (.d true (.int .i64 8)),.t 5,.t 6]⟩,⟨none,none,.st 4 (.t 4) (.t 7)⟩] [4]) (.ret))
theorem ok55 : FnOk Tryz.prog Tryz.f55 8 keep55 ac55 [.c 4 (some 4)]:=by
  refine ⟨?_,?_,?_,?_,?_⟩ <;> kernel_rfl
def keep56 : Nat → List Nat
  | 0 => [2,3,4]
  | 1 => [4]
  | _ => []
def ac56 : AC:=.seq (.region [⟨some 2,none,.box (.t 0)⟩,⟨some 3,none,.box (.t 1)⟩,⟨some 4,none,.alloc [.d true (.int .i64 0),.d true (.int .i64 0),.d true (.str ⟨#[]⟩),.nil]⟩] [2,3,4]) (.seq (.region [⟨some 5,none,.ld (some 4) (.t 2)⟩,⟨some 6,none,.ld (some 4) (.t 3)⟩,⟨some 7,none,.call (.c (.fn 79 [])) [.c (.d true (.int .i64 3)),.t 5,.t 6]⟩,⟨none,none,.st 4 (.t 4) (.t 7)⟩] [4]) (.ret))
theorem ok56 : FnOk Tryz.prog Tryz.f56 8 keep56 ac56 [.c 4 (some 4)]:=by
  refine ⟨?_,?_,?_,?_,?_⟩ <;> kernel_rfl
def keep57 : Nat → List Nat
  | 0 => [0,2]
  | 1 => [2]
  | _ => []
def ac57 : AC:=.seq (.region [⟨some 2,none,.alloc [.d true (.int .i64 0),.d true (.int .i64 0),.d true (.str ⟨#[]⟩),.nil]⟩] [0,2]) (.seq (.region [⟨some 3,none,.mv (.t 0)⟩,⟨some 4,none,.call (.c (.fn 68 [])) [.t 3]⟩,⟨some 5,none,.bld [.d true (.int .i64 0),.d true (.int .i64 0),.d true (.str ⟨#[]⟩),.nil] [(0,1,.c (.d true (.int .i64 2))),(2,1,.t 4)]⟩,⟨none,none,.st 4 (.t 2) (.t 5)⟩] [2]) (.ret))
theorem ok57 : FnOk Tryz.prog Tryz.f57 6 keep57 ac57 [.c 2 (some 4)]:=by
  refine ⟨?_,?_,?_,?_,?_⟩ <;> kernel_rfl
def keep58 : Nat → List Nat
  | 0 => [0]
  | 1 => [2]
  | _ => []
def ac58 : AC:=.seq (.region [⟨some 2,none,.mv (.c (.d true (.bool false)))⟩] [0]) (.seq (.region [⟨some 3,none,.mv (.t 0)⟩,⟨some 4,none,.call (.c (.fn 80 [])) [.t 3,.c (.d true (.int .i64 2))]⟩,⟨some 2,none,.mv (.t 4)⟩] [2]) (.ret))
theorem ok58 : FnOk Tryz.prog Tryz.f58 5 keep58 ac58 [.t 2]:=by
  refine ⟨?_,?_,?_,?_,?_⟩ <;> kernel_rfl
def keep59 : Nat → List Nat
  | 0 => [1]
  | 1 => [2]
  | _ => []
def ac59 : AC:=.seq (.region [⟨some 1,none,.box (.t 0)⟩,⟨some 2,none,.mv (.c (.d true (.bool false)))⟩] [1]) (.seq (.region [⟨some 3,none,.ld (some 4) (.t 1)⟩,⟨some 4,none,.call (.c (.fn 81 [])) [.t 3]⟩,⟨some 5,none,.bin .leq (.t 4) (.c (.d true (.int .i64 200)))⟩,⟨some 6,none,.mv (.t 5)⟩,⟨some 7,some (6,true),.ld (some 4) (.t 1)⟩,⟨some 8,some (6,true),.call (.c (.fn 82 [])) [.t 7]⟩,⟨some 9,none,.pick (.t 6) (.t 8) (.c (.d true (.bool false)))⟩,⟨some 2,none,.mv (.t 9)⟩] [2]) (.ret))
theorem ok59 : FnOk Tryz.prog Tryz.f59 10 keep59 ac59 [.t 2]:=by
  refine ⟨?_,?_,?_,?_,?_⟩ <;> kernel_rfl
def keep60 : Nat → List Nat
  | 0 => [0,1,2]
  | 1 => [6]
  | _ => []
def ac60 : AC:=.seq (.region [⟨some 6,none,.mv (.c (.d true (.bool false)))⟩] [0,1,2]) (.seq (.region [⟨some 7,none,.mv (.t 0)⟩,⟨some 8,none,.mv (.t 1)⟩,⟨some 9,none,.bin .geq (.t 7) (.t 8)⟩,⟨some 10,none,.mv (.t 9)⟩,⟨some 11,some (10,true),.mv (.t 0)⟩,⟨some 12,some (10,true),.mv (.t 2)⟩,⟨some 13,some (10,true),.bin .leq (.t 11) (.t 12)⟩,⟨some 14,none,.pick (.t 10) (.t 13) (.c (.d true (.bool false)))⟩,⟨some 6,none,.mv (.t 14)⟩] [6]) (.ret))
theorem ok60 : FnOk Tryz.prog Tryz.f60 15 keep60 ac60 [.t 6]:=by
  refine ⟨?_,?_,?_,?_,?_⟩ <;> kernel_rfl
def keep61 : Nat → List Nat
  | 0 => [0]
  | 1 => [2]
  | _ => []
def ac61 : AC:=.seq (.region [⟨some 2,none,.mv (.c (.d true (.bool false)))⟩] [0]) (.seq (.region [⟨some 3,none,.mv (.t 0)⟩,⟨some 4,none,.call (.c (.fn 83 [])) [.t 3,.c (.d true (.int .i64 2))]⟩,⟨some 2,none,.mv (.t 4)⟩] [2]) (.ret))
theorem ok61 : FnOk Tryz.prog Tryz.f61 5 keep61 ac61 [.t 2]:=by
  refine ⟨?_,?_,?_,?_,?_⟩ <;> kernel_rfl
def keep62 : Nat → List Nat
  | 0 => [1]
  | 1 => [2]
  | _ => []
def ac62 : AC:=.seq (.region [⟨some 1,none,.box (.t 0)⟩,⟨some 2,none,.mv (.c (.d true (.bool false)))⟩] [1]) (.seq (.region [⟨some 3,none,.ld (some 4) (.t 1)⟩,⟨some 4,none,.call (.c (.fn 84 [])) [.t 3]⟩,⟨some 5,none,.bin .leq (.t 4) (.c (.d true (.int .i64 200)))⟩,⟨some 6,none,.mv (.t 5)⟩,⟨some 7,some (6,true),.ld (some 4) (.t 1)⟩,⟨some 8,some (6,true),.call (.c (.fn 85 [])) [.t 7]⟩,⟨some 9,none,.pick (.t 6) (.t 8) (.c (.d true (.bool false)))⟩,⟨some 2,none,.mv (.t 9)⟩] [2]) (.ret))
theorem ok62 : FnOk Tryz.prog Tryz.f62 10 keep62 ac62 [.t 2]:=by
  refine ⟨?_,?_,?_,?_,?_⟩ <;> kernel_rfl
def keep63 : Nat → List Nat
  | 0 => [0,1,2]
  | 1 => [6]
  | _ => []
def ac63 : AC:=.seq (.region [⟨some 6,none,.mv (.c (.d true (.bool false)))⟩] [0,1,2]) (.seq (.region [⟨some 7,none,.mv (.t 0)⟩,⟨some 8,none,.mv (.t 1)⟩,⟨some 9,none,.bin .geq (.t 7) (.t 8)⟩,⟨some 10,none,.mv (.t 9)⟩,⟨some 11,some (10,true),.mv (.t 0)⟩,⟨some 12,some (10,true),.mv (.t 2)⟩,⟨some 13,some (10,true),.bin .leq (.t 11) (.t 12)⟩,⟨some 14,none,.pick (.t 10) (.t 13) (.c (.d true (.bool false)))⟩,⟨some 6,none,.mv (.t 14)⟩] [6]) (.ret))
theorem ok63 : FnOk Tryz.prog Tryz.f63 15 keep63 ac63 [.t 6]:=by
  refine ⟨?_,?_,?_,?_,?_⟩ <;> kernel_rfl
def keep64 : Nat → List Nat
  | 0 => [0]
  | 1 => [0,5]
  | 2 => [2]
  | 3 => [0,3]
  | 4 => [0,3,7]
  | 5 => [0,3]
  | 6 => [0,3]
  | 7 => [2]
  | _ => []
def ac64 : AC:=.seq (.region [⟨some 2,none,.mv (.c (.d true (.str ⟨#[]⟩)))⟩] [0]) (.seq (.seq (.region [⟨some 4,none,.mv (.t 0)⟩,⟨some 5,none,.bin .leq (.t 4) (.c (.d true (.int .i64 0)))⟩] [0,5]) (.cond (.t 5) (.seq (.region [⟨some 2,none,.mv (.c (.d true (.str ⟨#[109,48]⟩)))⟩] [2]) (.ret)) (.skip))) (.seq (.region [⟨some 3,none,.mv (.c (.d true (.str ⟨#[]⟩)))⟩] [0,3]) (.seq (.block 0 (.loop (.seq (.seq (.region [⟨some 6,none,.mv (.t 0)⟩,⟨some 7,none,.bin .gtr (.t 6) (.c (.d true (.int .i64 0)))⟩] [0,3,7]) (.cond (.t 7) (.skip) (.exit 0))) (.block 1 (.seq (.region [⟨some 8,none,.mv (.t 0)⟩,⟨some 9,none,.bin .rem (.t 8) (.c (.d true (.int .i64 10)))⟩,⟨some 10,none,.bin .add (.c (.d true (.int .i64 48))) (.t 9)⟩,⟨some 11,none,.cvi .u8 (.t 10)⟩,⟨some 12,none,.bs 5 1 [.t 11]⟩,⟨some 13,none,.bstr (.t 12)⟩,⟨some 14,none,.mv (.t 3)⟩,⟨some 15,none,.bin .add (.t 13) (.t 14)⟩,⟨some 3,none,.mv (.t 15)⟩] [0,3]) (.region [⟨some 16,none,.mv (.t 0)⟩,⟨some 17,none,.bin .quo (.t 16) (.c (.d true (.int .i64 10)))⟩,⟨some 0,none,.mv (.t 17)⟩] [0,3])))))) (.seq (.region [⟨some 18,none,.mv (.t 3)⟩,⟨some 19,none,.bin .add (.c (.d true (.str ⟨#[109]⟩))) (.t 18)⟩,⟨some 2,none,.mv (.t 19)⟩] [2]) (.ret)))))
theorem ok64 : FnOk Tryz.prog Tryz.f64 20 keep64 ac64 [.t 2]:=by
  refine ⟨?_,?_,?_,?_,?_⟩ <;> kernel_rfl
def keep65 : Nat → List Nat
  | 0 => [1,2]
  | 1 => [2]
  | _ => []
def ac65 : AC:=.seq (.region [⟨some 1,none,.box (.t 0)⟩,⟨some 2,none,.alloc [.d true (.int .i64 0),.d true (.int .i64 0),.d true (.str ⟨#[]⟩),.nil]⟩] [1,2]) (.seq (.region [⟨some 3,none,.ld (some 4) (.t 1)⟩,⟨some 4,none,.bs 28 4 [.t 3]⟩,⟨some 5,none,.bld [.d true (.int .i64 0),.d true (.int .i64 0),.d true (.str ⟨#[]⟩),.nil] [(0,1,.c (.d true (.int .i64 4))),(3,1,.t 4)]⟩,⟨none,none,.st 4 (.t 2) (.t 5)⟩] [2]) (.ret))
theorem ok65 : FnOk Tryz.prog Tryz.f65 6 keep65 ac65 [.c 2 (some 4)]:=by
  refine ⟨?_,?_,?_,?_,?_⟩ <;> kernel_rfl
def keep66 : Nat → List Nat
  | 0 => [1,2]
  | 1 => [1,2,3]
  | 2 => [1,2,3,4]
  | 3 => [1,2,3,4,16]
  | 4 => [1,2,3,4]
  | 5 => [1,2,3,4]
  | 6 => [2]
  | 1000005 => [1]
  | _ => []
def ac66 : AC:=.seq (.region [⟨some 1,none,.box (.t 0)⟩,⟨some 2,none,.alloc [.d true (.int .i64 0),.d true (.int .i64 0),.d true (.str ⟨#[]⟩),.nil]⟩] [1,2]) (.seq (.region [⟨some 5,none,.fa 0 (.t 1)⟩,⟨some 6,none,.ld none (.t 5)⟩,⟨some 7,none,.fa 1 (.t 1)⟩,⟨some 8,none,.ld none (.t 7)⟩,⟨some 9,none,.fa 2 (.t 1)⟩,⟨some 10,none,.ld none (.t 9)⟩,⟨some 11,none,.bld [.d true (.int .i64 0),.d true (.int .i64 0),.d true (.str ⟨#[]⟩),.nil] [(0,1,.t 6),(1,1,.t 8),(2,1,.t 10)]⟩,⟨some 3,none,.alloc [.d true (.int .i64 0),.d true (.int .i64 0),.d true (.str ⟨#[]⟩),.nil]⟩,⟨none,none,.st 4 (.t 3) (.t 11)⟩] [1,2,3]) (.seq (.seq (.region [⟨some 4,none,.mv (.c (.d true (.int .i64 0)))⟩] [1,2,3,4]) (.block 0 (.loop (.seq (.seq (.region [⟨some 12,none,.mv (.t 4)⟩,⟨some 13,none,.fa 3 (.t 1)⟩,⟨some 14,none,.ld none (.t 13)⟩,⟨some 15,none,.len (.t 14)⟩,⟨some 16,none,.bin .lss (.t 12) (.t 15)⟩] [1,2,3,4,16]) (.cond (.t 16) (.skip) (.exit 0))) (.seq (.block 1 (.tree (.take ⟨some 19,none,.fa 3 (.t 3)⟩ (.take ⟨some 21,none,.fa 3 (.t 1)⟩ (.take ⟨some 22,none,.ld none (.t 21)⟩ (.take ⟨some 23,none,.mv (.t 4)⟩ (.take ⟨some 24,none,.ia 4 (.t 22) (.t 23)⟩ (.take ⟨some 25,none,.ld (some 4) (.t 24)⟩ (.br (.cons ⟨some 20,none,.ld none (.t 19)⟩ (.br (.cons ⟨some 26,none,.call (.c (.fn 66 [])) [.t 25]⟩ (.br (.cons ⟨some 27,none,.bs 28 4 [.t 26]⟩ (.br (.cons ⟨some 28,none,.app 28 4 56 (.t 20) (.t 27)⟩ (.take ⟨some 29,none,.fa 3 (.t 3)⟩ (.br (.cons ⟨none,none,.st 1 (.t 29) (.t 28)⟩ (.done) (.nil)))) (.nil))) (.nil))) (.nil))) (.cons ⟨some 26,none,.call (.c (.fn 66 [])) [.t 25]⟩ (.br (.cons ⟨some 20,none,.ld none (.t 19)⟩ (.br (.cons ⟨some 27,none,.bs 28 4 [.t 26]⟩ (.br (.cons ⟨some 28,none,.app 28 4 56 (.t 20) (.t 27)⟩ (.take ⟨some 29,none,.fa 3 (.t 3)⟩ (.br (.cons ⟨none,none,.st 1 (.t 29) (.t 28)⟩ (.done) (.nil)))) (.nil))) (.nil))) (.cons ⟨some 27,none,.bs 28 4 [.t 26]⟩ (.br (.cons ⟨some 20,none,.ld none (.t 19)⟩ (.br (.cons ⟨some 28,none,.app 28 4 56 (.t 20) (.t 27)⟩ (.take ⟨some 29,none,.fa 3 (.t 3)⟩ (.br (.cons ⟨none,none,.st 1 (.t 29) (.t 28)⟩ (.done) (.nil)))) (.nil))) (.nil))) (.nil)))) (.nil)))))))))) [1,2,3,4])) (.region [⟨some 17,none,.mv (.t 4)⟩,⟨some 18,none,.bin .add (.t 17) (.c (.d true (.int .i64 1)))⟩,⟨some 4,none,.mv (.t 18)⟩] [1,2,3,4])))))) (.seq (.region [⟨some 30,none,.ld (some 4) (.t 3)⟩,⟨none,none,.st 4 (.t 2) (.t 30)⟩] [2]) (.ret))))
theorem ok66 : FnOk Tryz.prog Tryz.f66 31 keep66 ac66 [.c 2 (some 4)]:=by
  refine ⟨?_,?_,?_,?_,?_⟩ <;> kernel_rfl
def keep67 : Nat → List Nat
  | 0 => [1,2]
  | 1 => [1,2,5]
  | 2 => [2]
  | 3 => [2]
  | _ => []
def ac67 : AC:=.seq (.region [⟨some 1,none,.box (.t 0)⟩,⟨some 2,none,.alloc [.d true (.int .i64 0),.d true (.int .i64 0),.d true (.str ⟨#[]⟩),.nil]⟩] [1,2]) (.seq (.seq (.region [⟨some 3,none,.ld (some 4) (.t 1)⟩,⟨some 4,none,.call (.c (.fn 62 [])) [.t 3]⟩,⟨some 5,none,.not (.t 4)⟩] [1,2,5]) (.cond (.t 5) (.seq (.region [⟨some 6,none,.bld [.d true (.int .i64 0),.d true (.int .i64 0),.d true (.str ⟨#[]⟩),.nil] []⟩,⟨none,none,.st 4 (.t 2) (.t 6)⟩] [2]) (.ret)) (.skip))) (.seq (.region [⟨some 7,none,.ld (some 4) (.t 1)⟩,⟨none,none,.st 4 (.t 2) (.t 7)⟩] [2]) (.ret)))
theorem ok67 : FnOk Tryz.prog Tryz.f67 8 keep67 ac67 [.c 2 (some 4)]:=by
  refine ⟨?_,?_,?_,?_,?_⟩ <;> kernel_rfl
def keep68 : Nat → List Nat
  | 0 => [0]
  | 1 => [0,7]
  | 2 => [2]
  | 3 => [0,3]
  | 4 => [0,3,4]
  | 5 => [0,3,4,11]
  | 6 => [0,3,4,5]
  | 7 => [0,3,4,5,15]
  | 8 => [0,3,4,5]
  | 9 => [0,3,4]
  | 10 => [0,3,4]
  | 11 => [4,27]
  | 12 => [2]
  | 13 => [2]
  | _ => []
def ac68 : AC:=.seq (.region [⟨some 2,none,.mv (.c (.d true (.str ⟨#[]⟩)))⟩] [0]) (.seq (.seq (.region [⟨some 6,none,.mv (.t 0)⟩,⟨some 7,none,.bin .eql (.t 6) (.c (.d true (.int .i64 0)))⟩] [0,7]) (.cond (.t 7) (.seq (.region [⟨some 2,none,.mv (.c (.d true (.str ⟨#[48]⟩)))⟩] [2]) (.ret)) (.skip))) (.seq (.region [⟨some 8,none,.mv (.t 0)⟩,⟨some 9,none,.bin .lss (.t 8) (.c (.d true (.int .i64 0)))⟩,⟨some 3,none,.mv (.t 9)⟩] [0,3]) (.seq (.region [⟨some 4,none,.mv (.c (.d true (.str ⟨#[]⟩)))⟩] [0,3,4]) (.seq (.block 0 (.loop (.seq (.seq (.region [⟨some 10,none,.mv (.t 0)⟩,⟨some 11,none,.bin .neq (.t 10) (.c (.d true (.int .i64 0)))⟩] [0,3,4,11]) (.cond (.t 11) (.skip) (.exit 0))) (.block 1 (.seq (.region [⟨some 12,none,.mv (.t 0)⟩,⟨some 13,none,.bin .rem (.t 12) (.c (.d true (.int .i64 10)))⟩,⟨some 5,none,.mv (.t 13)⟩] [0,3,4,5]) (.seq (.seq (.region [⟨some 14,none,.mv (.t 5)⟩,⟨some 15,none,.bin .lss (.t 14) (.c (.d true (.int .i64 0)))⟩] [0,3,4,5,15]) (.cond (.t 15) (.region [⟨some 16,none,.mv (.t 5)⟩,⟨some 17,none,.bin .sub (.c (.d true (.int .i64 0))) (.t 16)⟩,⟨some 5,none,.mv (.t 17)⟩] [0,3,4,5]) (.skip))) (.seq (.region [⟨some 18,none,.mv (.t 5)⟩,⟨some 19,none,.bin .add (.c (.d true (.int .i64 48))) (.t 18)⟩,⟨some 20,none,.cvi .u8 (.t 19)⟩,⟨some 21,none,.bs 5 1 [.t 20]⟩,⟨some 22,none,.bstr (.t 21)⟩,⟨some 23,none,.mv (.t 4)⟩,⟨some 24,none,.bin .add (.t 22) (.t 23)⟩,⟨some 4,none,.mv (.t 24)⟩] [0,3,4]) (.region [⟨some 25,none,.mv (.t 0)⟩,⟨some 26,none,.bin .quo (.t 25) (.c (.d true (.int .i64 10)))⟩,⟨some 0,none,.mv (.t 26)⟩] [0,3,4])))))))) (.seq (.seq (.region [⟨some 27,none,.mv (.t 3)⟩] [4,27]) (.cond (.t 27) (.seq (.region [⟨some 28,none,.mv (.t 4)⟩,⟨some 29,none,.bin .add (.c (.d true (.str ⟨#[45]⟩))) (.t 28)⟩,⟨some 2,none,.mv (.t 29)⟩] [2]) (.ret)) (.skip))) (.seq (.region [⟨some 30,none,.mv (.t 4)⟩,⟨some 2,none,.mv (.t 30)⟩] [2]) (.ret)))))))
theorem ok68 : FnOk Tryz.prog Tryz.f68 31 keep68 ac68 [.t 2]:=by
  refine ⟨?_,?_,?_,?_,?_⟩ <;> kernel_rfl
def keep69 : Nat → List Nat
  | 0 => [1,2]
  | 1 => [1,2,5]
  | 2 => [2]
  | 3 => [2]
  | _ => []
def ac69 : AC:=.seq (.region [⟨some 1,none,.box (.t 0)⟩,⟨some 2,none,.alloc [.d true (.int .i64 0),.d true (.int .i64 0),.d true (.str ⟨#[]⟩),.nil]⟩] [1,2]) (.seq (.seq (.region [⟨some 3,none,.ld (some 4) (.t 1)⟩,⟨some 4,none,.call (.c (.fn 59 [])) [.t 3]⟩,⟨some 5,none,.not (.t 4)⟩] [1,2,5]) (.cond (.t 5) (.seq (.region [⟨some 6,none,.bld [.d true (.int .i64 0),.d true (.int .i64 0),.d true (.str ⟨#[]⟩),.nil] []⟩,⟨none,none,.st 4 (.t 2) (.t 6)⟩] [2]) (.ret)) (.skip))) (.seq (.region [⟨some 7,none,.ld (some 4) (.t 1)⟩,⟨some 8,none,.call (.c (.fn 43 [])) [.t 7]⟩,⟨none,none,.st 4 (.t 2) (.t 8)⟩] [2]) (.ret)))
theorem ok69 : FnOk Tryz.prog Tryz.f69 9 keep69 ac69 [.c 2 (some 4)]:=by
  refine ⟨?_,?_,?_,?_,?_⟩ <;> kernel_rfl
def keep72 : Nat → List Nat
  | 0 => [0]
  | 1 => [0,3]
  | 2 => [3,6,7,8]
  | 3 => [3,6,7,8,9]
  | 4 => [3,5,6,7,8]
  | 5 => [3,6,7,8]
  | 6 => [3,6,7,8]
  | 7 => [2]
  | _ => []
def ac72 : AC:=.seq (.region [⟨some 2,none,.own 28 4⟩] [0]) (.seq (.region [⟨some 3,none,.own 28 4⟩] [0,3]) (.seq (.seq (.region [⟨some 6,none,.mv (.t 0)⟩,⟨some 7,none,.len (.t 6)⟩,⟨some 8,none,.mv (.c (.d true (.int .i64 0)))⟩] [3,6,7,8]) (.block 0 (.loop (.seq (.region [⟨some 9,none,.bin .lss (.t 8) (.t 7)⟩] [3,6,7,8,9]) (.seq (.cond (.t 9) (.skip) (.exit 0)) (.seq (.block 1 (.seq (.region [⟨some 10,none,.ia 4 (.t 6) (.t 8)⟩,⟨some 11,none,.ld (some 4) (.t 10)⟩,⟨some 5,none,.alloc [.d true (.int .i64 0),.d true (.int .i64 0),.d true (.str ⟨#[]⟩),.nil]⟩,⟨none,none,.st 4 (.t 5) (.t 11)⟩] [3,5,6,7,8]) (.region [⟨some 12,none,.mv (.t 3)⟩,⟨some 13,none,.ld (some 4) (.t 5)⟩,⟨some 14,none,.call (.c (.fn 43 [])) [.t 13]⟩,⟨some 15,none,.bs 28 4 [.t 14]⟩,⟨some 16,none,.app 28 4 56 (.t 12) (.t 15)⟩,⟨some 3,none,.mv (.t 16)⟩] [3,6,7,8]))) (.region [⟨some 17,none,.bin .add (.t 8) (.c (.d true (.int .i64 1)))⟩,⟨some 8,none,.mv (.t 17)⟩] [3,6,7,8]))))))) (.seq (.region [⟨some 18,none,.mv (.t 3)⟩,⟨some 2,none,.mv (.t 18)⟩] [2]) (.ret))))
theorem ok72 : FnOk Tryz.prog Tryz.f72 19 keep72 ac72 [.t 2]:=by
  refine ⟨?_,?_,?_,?_,?_⟩ <;> kernel_rfl
def keep79 : Nat → List Nat
  | 0 => [0,4,5,6]
  | 1 => [6]
  | 1000001 => [1]
  | _ => []
def ac79 : AC:=.seq (.region [⟨some 4,none,.box (.t 1)⟩,⟨some 5,none,.box (.t 2)⟩,⟨some 6,none,.alloc [.d true (.int .i64 0),.d true (.int .i64 0),.d true (.str ⟨#[]⟩),.nil]⟩] [0,4,5,6]) (.seq (.tree (.take ⟨some 7,none,.mv (.t 0)⟩ (.take ⟨some 8,none,.ld (some 4) (.t 4)⟩ (.take ⟨some 10,none,.ld (some 4) (.t 5)⟩ (.br (.cons ⟨some 9,none,.call (.c (.fn 66 [])) [.t 8]⟩ (.br (.cons ⟨some 11,none,.call (.c (.fn 66 [])) [.t 10]⟩ (.br (.cons ⟨some 12,none,.bs 28 4 [.t 9,.t 11]⟩ (.take ⟨some 13,none,.bld [.d true (.int .i64 0),.d true (.int .i64 0),.d true (.str ⟨#[]⟩),.nil] [(0,1,.t 7),(3,1,.t 12)]⟩ (.br (.cons ⟨some 14,none,.call (.c (.fn 67 [])) [.t 13]⟩ (.br (.cons ⟨none,none,.st 4 (.t 6) (.t 14)⟩ (.done) (.nil))) (.nil)))) (.nil))) (.nil))) (.nil)))))) [6]) (.ret))
theorem ok79 : FnOk Tryz.prog Tryz.f79 15 keep79 ac79 [.c 6 (some 4)]:=by
  refine ⟨?_,?_,?_,?_,?_⟩ <;> kernel_rfl
def keep80 : Nat → List Nat
  | 0 => [0,1]
  | 1 => [0,1,5]
  | 2 => [4]
  | _ => []
def ac80 : AC:=.seq (.region [⟨some 4,none,.mv (.c (.d true (.bool false)))⟩] [0,1]) (.seq (.region [⟨some 6,none,.mv (.t 0)⟩,⟨some 7,none,.call (.c (.fn 96 [])) [.t 6]⟩,⟨some 5,none,.mv (.t 7)⟩] [0,1,5]) (.seq (.region [⟨some 8,none,.mv (.t 0)⟩,⟨some 9,none,.slen (.t 8)⟩,⟨some 10,none,.bin .leq (.t 9) (.c (.d true (.int .i64 60)))⟩,⟨some 11,none,.mv (.t 10)⟩,⟨some 12,some (11,true),.mv (.t 5)⟩,⟨some 13,some (11,true),.len (.t 12)⟩,⟨some 14,some (11,true),.mv (.t 1)⟩,⟨some 15,some (11,true),.bin .geq (.t 13) (.t 14)⟩,⟨some 16,none,.pick (.t 11) (.t 15) (.c (.d true (.bool false)))⟩,⟨some 17,none,.mv (.t 16)⟩,⟨some 18,some (17,true),.mv (.t 5)⟩,⟨some 19,some (17,true),.call (.c (.fn 97 [])) [.t 18,.c (.fn 98 [])]⟩,⟨some 20,some (17,true),.not (.t 19)⟩,⟨some 21,none,.pick (.t 17) (.t 20) (.c (.d true (.bool false)))⟩,⟨some 4,none,.mv (.t 21)⟩] [4]) (.ret)))
theorem ok80 : FnOk Tryz.prog Tryz.f80 22 keep80 ac80 [.t 4]:=by
  refine ⟨?_,?_,?_,?_,?_⟩ <;> kernel_rfl
def keep81 : Nat → List Nat
  | 0 => [1]
  | 1 => [1,3]
  | 2 => [3,7,8,9]
  | 3 => [3,7,8,9,10]
  | 4 => [3,5,7,8,9]
  | 5 => [3,7,8,9]
  | 6 => [3,7,8,9]
  | 7 => [2]
  | _ => []
def ac81 : AC:=.seq (.region [⟨some 1,none,.box (.t 0)⟩,⟨some 2,none,.mv (.c (.d true (.int .i64 0)))⟩] [1]) (.seq (.region [⟨some 3,none,.mv (.c (.d true (.int .i64 1)))⟩] [1,3]) (.seq (.seq (.region [⟨some 6,none,.fa 3 (.t 1)⟩,⟨some 7,none,.ld none (.t 6)⟩,⟨some 8,none,.len (.t 7)⟩,⟨some 9,none,.mv (.c (.d true (.int .i64 0)))⟩] [3,7,8,9]) (.block 0 (.loop (.seq (.region [⟨some 10,none,.bin .lss (.t 9) (.t 8)⟩] [3,7,8,9,10]) (.seq (.cond (.t 10) (.skip) (.exit 0)) (.seq (.block 1 (.seq (.region [⟨some 11,none,.ia 4 (.t 7) (.t 9)⟩,⟨some 12,none,.ld (some 4) (.t 11)⟩,⟨some 5,none,.alloc [.d true (.int .i64 0),.d true (.int .i64 0),.d true (.str ⟨#[]⟩),.nil]⟩,⟨none,none,.st 4 (.t 5) (.t 12)⟩] [3,5,7,8,9]) (.region [⟨some 13,none,.mv (.t 3)⟩,⟨some 14,none,.ld (some 4) (.t 5)⟩,⟨some 15,none,.call (.c (.fn 81 [])) [.t 14]⟩,⟨some 16,none,.bin .add (.t 13) (.t 15)⟩,⟨some 3,none,.mv (.t 16)⟩] [3,7,8,9]))) (.region [⟨some 17,none,.bin .add (.t 9) (.c (.d true (.int .i64 1)))⟩,⟨some 9,none,.mv (.t 17)⟩] [3,7,8,9]))))))) (.seq (.region [⟨some 18,none,.mv (.t 3)⟩,⟨some 2,none,.mv (.t 18)⟩] [2]) (.ret))))
theorem ok81 : FnOk Tryz.prog Tryz.f81 19 keep81 ac81 [.t 2]:=by
  refine ⟨?_,?_,?_,?_,?_⟩ <;> kernel_rfl
def keep82 : Nat → List Nat
  | 0 => [1]
  | 1 => [1,14]
  | 2 => [2]
  | 3 => [1,16]
  | 4 => [1,16,17]
  | 5 => [2]
  | 6 => [1,16,27]
  | 7 => [2]
  | 8 => [1,38]
  | 9 => [2]
  | 10 => [2]
  | _ => []
def ac82 : AC:=.seq (.region [⟨some 1,none,.box (.t 0)⟩,⟨some 2,none,.mv (.c (.d true (.bool false)))⟩] [1]) (.seq (.seq (.draw [⟨some 3,none,.fa 3 (.t 1)⟩,⟨some 4,none,.ld none (.t 3)⟩,⟨some 5,none,.len (.t 4)⟩,⟨some 6,none,.fa 0 (.t 1)⟩,⟨some 7,none,.ld none (.t 6)⟩,⟨some 8,none,.call (.c (.fn 100 [])) [.t 7]⟩,⟨some 9,none,.bin .neq (.t 5) (.t 8)⟩,⟨some 10,none,.mv (.t 9)⟩,⟨some 11,some (10,false),.fa 3 (.t 1)⟩,⟨some 12,some (10,false),.ld none (.t 11)⟩,⟨some 13,some (10,false),.call (.c (.fn 101 [])) [.t 12,.c (.fn 102 [])]⟩,⟨some 14,none,.pick (.t 10) (.c (.d true (.bool true))) (.t 13)⟩] [1,14]) (.cond (.t 14) (.seq (.region [⟨some 2,none,.mv (.c (.d true (.bool false)))⟩] [2]) (.ret)) (.skip))) (.seq (.seq (.region [⟨some 15,none,.fa 0 (.t 1)⟩,⟨some 16,none,.ld none (.t 15)⟩] [1,16]) (.block 0 (.seq (.region [⟨some 18,none,.bin .eql (.t 16) (.c (.d true (.int .i64 1)))⟩,⟨some 17,none,.mv (.t 18)⟩] [1,16,17]) (.cond (.t 17) (.seq (.region [⟨some 19,none,.fa 1 (.t 1)⟩,⟨some 20,none,.ld none (.t 19)⟩,⟨some 21,none,.call (.c (.fn 60 [])) [.t 20,.c (.d true (.int .i64 0)),.c (.d true (.int .i64 1000000))]⟩,⟨some 22,none,.mv (.t 21)⟩,⟨some 23,some (22,true),.fa 2 (.t 1)⟩,⟨some 24,some (22,true),.ld none (.t 23)⟩,⟨some 25,some (22,true),.bin .eql (.t 24) (.c (.d true (.str ⟨#[]⟩)))⟩,⟨some 26,none,.pick (.t 22) (.t 25) (.c (.d true (.bool false)))⟩,⟨some 2,none,.mv (.t 26)⟩] [2]) (.ret)) (.seq (.region [⟨some 28,none,.bin .eql (.t 16) (.c (.d true (.int .i64 2)))⟩,⟨some 27,none,.mv (.t 28)⟩] [1,16,27]) (.cond (.t 27) (.seq (.region [⟨some 29,none,.fa 1 (.t 1)⟩,⟨some 30,none,.ld none (.t 29)⟩,⟨some 31,none,.bin .eql (.t 30) (.c (.d true (.int .i64 0)))⟩,⟨some 32,none,.mv (.t 31)⟩,⟨some 33,some (32,true),.fa 2 (.t 1)⟩,⟨some 34,some (32,true),.ld none (.t 33)⟩,⟨some 35,some (32,true),.slen (.t 34)⟩,⟨some 36,some (32,true),.bin .leq (.t 35) (.c (.d true (.int .i64 300)))⟩,⟨some 37,none,.pick (.t 32) (.t 36) (.c (.d true (.bool false)))⟩,⟨some 2,none,.mv (.t 37)⟩] [2]) (.ret)) (.seq (.region [⟨some 39,none,.bin .eql (.t 16) (.c (.d true (.int .i64 5)))⟩,⟨some 38,none,.mv (.t 39)⟩] [1,38]) (.cond (.t 38) (.seq (.draw [⟨some 40,none,.fa 1 (.t 1)⟩,⟨some 41,none,.ld none (.t 40)⟩,⟨some 42,none,.bin .eql (.t 41) (.c (.d true (.int .i64 0)))⟩,⟨some 43,none,.mv (.t 42)⟩,⟨some 44,some (43,true),.fa 2 (.t 1)⟩,⟨some 45,some (43,true),.ld none (.t 44)⟩,⟨some 46,some (43,true),.bin .eql (.t 45) (.c (.d true (.str ⟨#[]⟩)))⟩,⟨some 47,none,.pick (.t 43) (.t 46) (.c (.d true (.bool false)))⟩,⟨some 48,none,.mv (.t 47)⟩,⟨some 49,some (48,true),.fa 3 (.t 1)⟩,⟨some 50,some (48,true),.ld none (.t 49)⟩,⟨some 51,some (48,true),.ia 4 (.t 50) (.c (.d true (.int .i64 1)))⟩,⟨some 52,some (48,true),.ld (some 4) (.t 51)⟩,⟨some 53,some (48,true),.fa 3 (.t 1)⟩,⟨some 54,some (48,true),.ld none (.t 53)⟩,⟨some 55,some (48,true),.ia 4 (.t 54) (.c (.d true (.int .i64 0)))⟩,⟨some 56,some (48,true),.ld (some 4) (.t 55)⟩,⟨some 57,some (48,true),.call (.c (.fn 103 [])) [.t 52,.t 56]⟩,⟨some 58,some (48,true),.not (.t 57)⟩,⟨some 59,none,.pick (.t 48) (.t 58) (.c (.d true (.bool false)))⟩,⟨some 2,none,.mv (.t 59)⟩] [2]) (.ret)) (.skip))))))))) (.seq (.region [⟨some 60,none,.fa 1 (.t 1)⟩,⟨some 61,none,.ld none (.t 60)⟩,⟨some 62,none,.bin .eql (.t 61) (.c (.d true (.int .i64 0)))⟩,⟨some 63,none,.mv (.t 62)⟩,⟨some 64,some (63,true),.fa 2 (.t 1)⟩,⟨some 65,some (63,true),.ld none (.t 64)⟩,⟨some 66,some (63,true),.bin .eql (.t 65) (.c (.d true (.str ⟨#[]⟩)))⟩,⟨some 67,none,.pick (.t 63) (.t 66) (.c (.d true (.bool false)))⟩,⟨some 2,none,.mv (.t 67)⟩] [2]) (.ret))))
theorem ok82 : FnOk Tryz.prog Tryz.f82 68 keep82 ac82 [.t 2]:=by
  refine ⟨?_,?_,?_,?_,?_⟩ <;> kernel_rfl
def keep83 : Nat → List Nat
  | 0 => [0,1]
  | 1 => [0,1,5]
  | 2 => [0,1,5,6]
  | 3 => [0,1,5,6,12]
  | 4 => [0,1,5,6]
  | 5 => [0,1,5,6,20]
  | 6 => [4]
  | 7 => [4]
  | _ => []
def ac83 : AC:=.seq (.region [⟨some 4,none,.mv (.c (.d true (.bool false)))⟩] [0,1]) (.seq (.region [⟨some 7,none,.mv (.t 0)⟩,⟨some 8,none,.call (.c (.fn 104 [])) [.t 7]⟩,⟨some 5,none,.mv (.t 8)⟩] [0,1,5]) (.seq (.seq (.region [⟨some 6,none,.mv (.c (.d true (.int .i64 0)))⟩] [0,1,5,6]) (.block 0 (.loop (.seq (.seq (.region [⟨some 9,none,.mv (.t 6)⟩,⟨some 10,none,.mv (.t 5)⟩,⟨some 11,none,.len (.t 10)⟩,⟨some 12,none,.bin .lss (.t 9) (.t 11)⟩] [0,1,5,6,12]) (.cond (.t 12) (.skip) (.exit 0))) (.seq (.block 1 (.seq (.region [⟨some 15,none,.mv (.t 5)⟩,⟨some 16,none,.mv (.t 6)⟩,⟨some 17,none,.ia 1 (.t 15) (.t 16)⟩,⟨some 18,none,.ld none (.t 17)⟩,⟨some 19,none,.call (.c (.fn 105 [])) [.t 18]⟩,⟨some 20,none,.not (.t 19)⟩] [0,1,5,6,20]) (.cond (.t 20) (.seq (.region [⟨some 4,none,.mv (.c (.d true (.bool false)))⟩] [4]) (.ret)) (.skip)))) (.region [⟨some 13,none,.mv (.t 6)⟩,⟨some 14,none,.bin .add (.t 13) (.c (.d true (.int .i64 1)))⟩,⟨some 6,none,.mv (.t 14)⟩] [0,1,5,6])))))) (.seq (.region [⟨some 21,none,.mv (.t 5)⟩,⟨some 22,none,.len (.t 21)⟩,⟨some 23,none,.mv (.t 1)⟩,⟨some 24,none,.bin .geq (.t 22) (.t 23)⟩,⟨some 25,none,.mv (.t 24)⟩,⟨some 26,some (25,true),.mv (.t 0)⟩,⟨some 27,some (25,true),.slen (.t 26)⟩,⟨some 28,some (25,true),.bin .leq (.t 27) (.c (.d true (.int .i64 60)))⟩,⟨some 29,none,.pick (.t 25) (.t 28) (.c (.d true (.bool false)))⟩,⟨some 4,none,.mv (.t 29)⟩] [4]) (.ret))))
theorem ok83 : FnOk Tryz.prog Tryz.f83 30 keep83 ac83 [.t 4]:=by
  refine ⟨?_,?_,?_,?_,?_⟩ <;> kernel_rfl
def keep84 : Nat → List Nat
  | 0 => [1]
  | 1 => [1,3]
  | 2 => [1,3,4]
  | 3 => [1,3,4,9]
  | 4 => [1,3,4]
  | 5 => [1,3,4]
  | 6 => [2]
  | _ => []
def ac84 : AC:=.seq (.region [⟨some 1,none,.box (.t 0)⟩,⟨some 2,none,.mv (.c (.d true (.int .i64 0)))⟩] [1]) (.seq (.region [⟨some 3,none,.mv (.c (.d true (.int .i64 1)))⟩] [1,3]) (.seq (.seq (.region [⟨some 4,none,.mv (.c (.d true (.int .i64 0)))⟩] [1,3,4]) (.block 0 (.loop (.seq (.seq (.region [⟨some 5,none,.mv (.t 4)⟩,⟨some 6,none,.fa 3 (.t 1)⟩,⟨some 7,none,.ld none (.t 6)⟩,⟨some 8,none,.len (.t 7)⟩,⟨some 9,none,.bin .lss (.t 5) (.t 8)⟩] [1,3,4,9]) (.cond (.t 9) (.skip) (.exit 0))) (.seq (.block 1 (.region [⟨some 12,none,.mv (.t 3)⟩,⟨some 13,none,.fa 3 (.t 1)⟩,⟨some 14,none,.ld none (.t 13)⟩,⟨some 15,none,.mv (.t 4)⟩,⟨some 16,none,.ia 4 (.t 14) (.t 15)⟩,⟨some 17,none,.ld (some 4) (.t 16)⟩,⟨some 18,none,.call (.c (.fn 84 [])) [.t 17]⟩,⟨some 19,none,.bin .add (.t 12) (.t 18)⟩,⟨some 3,none,.mv (.t 19)⟩] [1,3,4])) (.region [⟨some 10,none,.mv (.t 4)⟩,⟨some 11,none,.bin .add (.t 10) (.c (.d true (.int .i64 1)))⟩,⟨some 4,none,.mv (.t 11)⟩] [1,3,4])))))) (.seq (.region [⟨some 20,none,.mv (.t 3)⟩,⟨some 2,none,.mv (.t 20)⟩] [2]) (.ret))))
theorem ok84 : FnOk Tryz.prog Tryz.f84 21 keep84 ac84 [.t 2]:=by
  refine ⟨?_,?_,?_,?_,?_⟩ <;> kernel_rfl
def keep85 : Nat → List Nat
  | 0 => [1]
  | 1 => [1,42]
  | 2 => [2]
  | 3 => [1,3]
  | 4 => [1,3,47]
  | 5 => [1,3]
  | 6 => [1,3,56]
  | 7 => [2]
  | 8 => [2]
  | _ => []
def ac85 : AC:=.seq (.region [⟨some 1,none,.box (.t 0)⟩,⟨some 2,none,.mv (.c (.d true (.bool false)))⟩] [1]) (.seq (.seq (.draw [⟨some 4,none,.fa 0 (.t 1)⟩,⟨some 5,none,.ld none (.t 4)⟩,⟨some 6,none,.call (.c (.fn 106 [])) [.t 5]⟩,⟨some 7,none,.fa 3 (.t 1)⟩,⟨some 8,none,.ld none (.t 7)⟩,⟨some 9,none,.len (.t 8)⟩,⟨some 10,none,.bin .neq (.t 6) (.t 9)⟩,⟨some 11,none,.mv (.t 10)⟩,⟨some 12,some (11,false),.fa 0 (.t 1)⟩,⟨some 13,some (11,false),.ld none (.t 12)⟩,⟨some 14,some (11,false),.bin .neq (.t 13) (.c (.d true (.int .i64 1)))⟩,⟨some 15,some (11,false),.mv (.t 14)⟩,⟨some 16,some (15,true),.fa 1 (.t 1)⟩,⟨some 17,some (15,true),.ld none (.t 16)⟩,⟨some 18,some (15,true),.bin .neq (.t 17) (.c (.d true (.int .i64 0)))⟩,⟨some 19,some (11,false),.pick (.t 15) (.t 18) (.c (.d true (.bool false)))⟩,⟨some 20,none,.pick (.t 11) (.c (.d true (.bool true))) (.t 19)⟩,⟨some 21,none,.mv (.t 20)⟩,⟨some 22,some (21,false),.fa 0 (.t 1)⟩,⟨some 23,some (21,false),.ld none (.t 22)⟩,⟨some 24,some (21,false),.bin .neq (.t 23) (.c (.d true (.int .i64 2)))⟩,⟨some 25,some (21,false),.mv (.t 24)⟩,⟨some 26,some (25,true),.fa 2 (.t 1)⟩,⟨some 27,some (25,true),.ld none (.t 26)⟩,⟨some 28,some (25,true),.bin .neq (.t 27) (.c (.d true (.str ⟨#[]⟩)))⟩,⟨some 29,some (21,false),.pick (.t 25) (.t 28) (.c (.d true (.bool false)))⟩,⟨some 30,none,.pick (.t 21) (.c (.d true (.bool true))) (.t 29)⟩,⟨some 31,none,.mv (.t 30)⟩,⟨some 32,some (31,false),.fa 1 (.t 1)⟩,⟨some 33,some (31,false),.ld none (.t 32)⟩,⟨some 34,some (31,false),.call (.c (.fn 63 [])) [.t 33,.c (.d true (.int .i64 0)),.c (.d true (.int .i64 1000000))]⟩,⟨some 35,some (31,false),.not (.t 34)⟩,⟨some 36,none,.pick (.t 31) (.c (.d true (.bool true))) (.t 35)⟩,⟨some 37,none,.mv (.t 36)⟩,⟨some 38,some (37,false),.fa 2 (.t 1)⟩,⟨some 39,some (37,false),.ld none (.t 38)⟩,⟨some 40,some (37,false),.slen (.t 39)⟩,⟨some 41,some (37,false),.bin .gtr (.t 40) (.c (.d true (.int .i64 300)))⟩,⟨some 42,none,.pick (.t 37) (.c (.d true (.bool true))) (.t 41)⟩] [1,42]) (.cond (.t 42) (.seq (.region [⟨some 2,none,.mv (.c (.d true (.bool false)))⟩] [2]) (.ret)) (.skip))) (.seq (.seq (.region [⟨some 3,none,.mv (.c (.d true (.int .i64 0)))⟩] [1,3]) (.block 0 (.loop (.seq (.seq (.region [⟨some 43,none,.mv (.t 3)⟩,⟨some 44,none,.fa 3 (.t 1)⟩,⟨some 45,none,.ld none (.t 44)⟩,⟨some 46,none,.len (.t 45)⟩,⟨some 47,none,.bin .lss (.t 43) (.t 46)⟩] [1,3,47]) (.cond (.t 47) (.skip) (.exit 0))) (.seq (.block 1 (.seq (.region [⟨some 50,none,.fa 3 (.t 1)⟩,⟨some 51,none,.ld none (.t 50)⟩,⟨some 52,none,.mv (.t 3)⟩,⟨some 53,none,.ia 4 (.t 51) (.t 52)⟩,⟨some 54,none,.ld (some 4) (.t 53)⟩,⟨some 55,none,.call (.c (.fn 85 [])) [.t 54]⟩,⟨some 56,none,.not (.t 55)⟩] [1,3,56]) (.cond (.t 56) (.seq (.region [⟨some 2,none,.mv (.c (.d true (.bool false)))⟩] [2]) (.ret)) (.skip)))) (.region [⟨some 48,none,.mv (.t 3)⟩,⟨some 49,none,.bin .add (.t 48) (.c (.d true (.int .i64 1)))⟩,⟨some 3,none,.mv (.t 49)⟩] [1,3])))))) (.seq (.draw [⟨some 57,none,.fa 0 (.t 1)⟩,⟨some 58,none,.ld none (.t 57)⟩,⟨some 59,none,.bin .neq (.t 58) (.c (.d true (.int .i64 5)))⟩,⟨some 60,none,.mv (.t 59)⟩,⟨some 61,some (60,false),.fa 3 (.t 1)⟩,⟨some 62,some (60,false),.ld none (.t 61)⟩,⟨some 63,some (60,false),.ia 4 (.t 62) (.c (.d true (.int .i64 1)))⟩,⟨some 64,some (60,false),.ld (some 4) (.t 63)⟩,⟨some 65,some (60,false),.fa 3 (.t 1)⟩,⟨some 66,some (60,false),.ld none (.t 65)⟩,⟨some 67,some (60,false),.ia 4 (.t 66) (.c (.d true (.int .i64 0)))⟩,⟨some 68,some (60,false),.ld (some 4) (.t 67)⟩,⟨some 69,some (60,false),.call (.c (.fn 107 [])) [.t 64,.t 68]⟩,⟨some 70,some (60,false),.not (.t 69)⟩,⟨some 71,none,.pick (.t 60) (.c (.d true (.bool true))) (.t 70)⟩,⟨some 2,none,.mv (.t 71)⟩] [2]) (.ret))))
theorem ok85 : FnOk Tryz.prog Tryz.f85 72 keep85 ac85 [.t 2]:=by
  refine ⟨?_,?_,?_,?_,?_⟩ <;> kernel_rfl
def keep96 : Nat → List Nat
  | 0 => [0]
  | 1 => [2]
  | _ => []
def ac96 : AC:=.seq (.region [⟨some 2,none,.own 9 1⟩] [0]) (.seq (.region [⟨some 3,none,.mv (.t 0)⟩,⟨some 4,none,.call (.c (.fn 112 [])) [.t 3,.c (.d true (.str ⟨#[46]⟩))]⟩,⟨some 2,none,.mv (.t 4)⟩] [2]) (.ret))
theorem ok96 : FnOk Tryz.prog Tryz.f96 5 keep96 ac96 [.t 2]:=by
  refine ⟨?_,?_,?_,?_,?_⟩ <;> kernel_rfl
def keep97 : Nat → List Nat
  | 0 => [0,1]
  | 1 => [4]
  | _ => []
def ac97 : AC:=.seq (.region [⟨some 4,none,.mv (.c (.d true (.bool false)))⟩] [0,1]) (.seq (.region [⟨some 5,none,.mv (.t 0)⟩,⟨some 6,none,.mv (.t 1)⟩,⟨some 7,none,.call (.c (.fn 113 [])) [.t 5,.t 6]⟩,⟨some 8,none,.bin .geq (.t 7) (.c (.d true (.int .i64 0)))⟩,⟨some 4,none,.mv (.t 8)⟩] [4]) (.ret))
theorem ok97 : FnOk Tryz.prog Tryz.f97 9 keep97 ac97 [.t 4]:=by
  refine ⟨?_,?_,?_,?_,?_⟩ <;> kernel_rfl
def keep98 : Nat → List Nat
  | 0 => [0]
  | 1 => [2]
  | _ => []
def ac98 : AC:=.seq (.region [⟨some 2,none,.mv (.c (.d true (.bool false)))⟩] [0]) (.seq (.region [⟨some 3,none,.mv (.t 0)⟩,⟨some 4,none,.call (.c (.fn 99 [])) [.t 3]⟩,⟨some 5,none,.not (.t 4)⟩,⟨some 2,none,.mv (.t 5)⟩] [2]) (.ret))
theorem ok98 : FnOk Tryz.prog Tryz.f98 6 keep98 ac98 [.t 2]:=by
  refine ⟨?_,?_,?_,?_,?_⟩ <;> kernel_rfl
def keep99 : Nat → List Nat
  | 0 => [0]
  | 1 => [0,6,7]
  | 2 => [0,6,7,8]
  | 3 => [0,3,6,7]
  | 4 => [0,3,4,6,7]
  | 5 => [0,6,7,41]
  | 6 => [2]
  | 7 => [0,6,7]
  | 8 => [2]
  | _ => []
def ac99 : AC:=.seq (.region [⟨some 2,none,.mv (.c (.d true (.bool false)))⟩] [0]) (.seq (.seq (.region [⟨some 5,none,.mv (.t 0)⟩,⟨some 6,none,.slen (.t 5)⟩,⟨some 7,none,.mv (.c (.d true (.int .i64 0)))⟩] [0,6,7]) (.block 0 (.loop (.seq (.region [⟨some 8,none,.bin .lss (.t 7) (.t 6)⟩] [0,6,7,8]) (.seq (.cond (.t 8) (.skip) (.exit 0)) (.seq (.block 1 (.seq (.region [⟨some 9,none,.mv (.t 7)⟩,⟨some 3,none,.mv (.t 9)⟩] [0,3,6,7]) (.seq (.region [⟨some 10,none,.mv (.t 0)⟩,⟨some 11,none,.mv (.t 3)⟩,⟨some 12,none,.ix (.t 10) (.t 11)⟩,⟨some 4,none,.mv (.t 12)⟩] [0,3,4,6,7]) (.seq (.region [⟨some 13,none,.mv (.t 4)⟩,⟨some 14,none,.bin .lss (.t 13) (.c (.d true (.int .u8 97)))⟩,⟨some 15,none,.mv (.t 14)⟩,⟨some 16,some (15,false),.mv (.t 4)⟩,⟨some 17,some (15,false),.bin .gtr (.t 16) (.c (.d true (.int .u8 122)))⟩,⟨some 18,none,.pick (.t 15) (.c (.d true (.bool true))) (.t 17)⟩,⟨some 19,none,.mv (.t 18)⟩,⟨some 20,some (19,true),.mv (.t 4)⟩,⟨some 21,some (19,true),.bin .lss (.t 20) (.c (.d true (.int .u8 48)))⟩,⟨some 22,some (19,true),.mv (.t 21)⟩,⟨some 23,some (22,false),.mv (.t 4)⟩,⟨some 24,some (22,false),.bin .gtr (.t 23) (.c (.d true (.int .u8 57)))⟩,⟨some 25,some (19,true),.pick (.t 22) (.c (.d true (.bool true))) (.t 24)⟩,⟨some 26,none,.pick (.t 19) (.t 25) (.c (.d true (.bool false)))⟩,⟨some 27,none,.mv (.t 26)⟩,⟨some 28,some (27,true),.mv (.t 4)⟩,⟨some 29,some (27,true),.bin .neq (.t 28) (.c (.d true (.int .u8 45)))⟩,⟨some 30,some (27,true),.mv (.t 29)⟩,⟨some 31,some (30,false),.mv (.t 3)⟩,⟨some 32,some (30,false),.bin .eql (.t 31) (.c (.d true (.int .i64 0)))⟩,⟨some 33,some (27,true),.pick (.t 30) (.c (.d true (.bool true))) (.t 32)⟩,⟨some 34,some (27,true),.mv (.t 33)⟩,⟨some 35,some (34,false),.mv (.t 3)⟩,⟨some 36,some (34,false),.mv (.t 0)⟩,⟨some 37,some (34,false),.slen (.t 36)⟩,⟨some 38,some (34,false),.bin .sub (.t 37) (.c (.d true (.int .i64 1)))⟩,⟨some 39,some (34,false),.bin .eql (.t 35) (.t 38)⟩,⟨some 40,some (27,true),.pick (.t 34) (.c (.d true (.bool true))) (.t 39)⟩,⟨some 41,none,.pick (.t 27) (.t 40) (.c (.d true (.bool false)))⟩] [0,6,7,41]) (.cond (.t 41) (.seq (.region [⟨some 2,none,.mv (.c (.d true (.bool false)))⟩] [2]) (.ret)) (.skip)))))) (.region [⟨some 42,none,.bin .add (.t 7) (.c (.d true (.int .i64 1)))⟩,⟨some 7,none,.mv (.t 42)⟩] [0,6,7]))))))) (.seq (.region [⟨some 43,none,.mv (.t 0)⟩,⟨some 44,none,.slen (.t 43)⟩,⟨some 45,none,.call (.c (.fn 60 [])) [.t 44,.c (.d true (.int .i64 1)),.c (.d true (.int .i64 10))]⟩,⟨some 2,none,.mv (.t 45)⟩] [2]) (.ret)))
theorem ok99 : FnOk Tryz.prog Tryz.f99 46 keep99 ac99 [.t 2]:=by
  refine ⟨?_,?_,?_,?_,?_⟩ <;> kernel_rfl
def keep100 : Nat → List Nat
  | 0 => [0]
  | 1 => [3]
  | 2 => [3,4]
  | 3 => [3,4]
  | 4 => [2]
  | 5 => [3,7]
  | 6 => [3,7]
  | 7 => [2]
  | 8 => [3,10]
  | 9 => [3,10]
  | 10 => [3,10]
  | 11 => [10]
  | 12 => [2]
  | 13 => [2]
  | _ => []
def ac100 : AC:=.seq (.region [⟨some 2,none,.mv (.c (.d true (.int .i64 0)))⟩] [0]) (.seq (.seq (.region [⟨some 3,none,.mv (.t 0)⟩] [3]) (.block 0 (.seq (.seq (.region [⟨some 5,none,.bin .eql (.t 3) (.c (.d true (.int .i64 1)))⟩,⟨some 4,none,.mv (.t 5)⟩] [3,4]) (.cond (.t 4) (.skip) (.region [⟨some 6,none,.bin .eql (.t 3) (.c (.d true (.int .i64 2)))⟩,⟨some 4,none,.mv (.t 6)⟩] [3,4]))) (.cond (.t 4) (.seq (.region [⟨some 2,none,.mv (.c (.d true (.int .i64 0)))⟩] [2]) (.ret)) (.seq (.seq (.region [⟨some 8,none,.bin .eql (.t 3) (.c (.d true (.int .i64 4)))⟩,⟨some 7,none,.mv (.t 8)⟩] [3,7]) (.cond (.t 7) (.skip) (.region [⟨some 9,none,.bin .eql (.t 3) (.c (.d true (.int .i64 6)))⟩,⟨some 7,none,.mv (.t 9)⟩] [3,7]))) (.cond (.t 7) (.seq (.region [⟨some 2,none,.mv (.c (.d true (.int .i64 1)))⟩] [2]) (.ret)) (.seq (.seq (.region [⟨some 11,none,.bin .eql (.t 3) (.c (.d true (.int .i64 3)))⟩,⟨some 10,none,.mv (.t 11)⟩] [3,10]) (.cond (.t 10) (.skip) (.seq (.region [⟨some 12,none,.bin .eql (.t 3) (.c (.d true (.int .i64 5)))⟩,⟨some 10,none,.mv (.t 12)⟩] [3,10]) (.cond (.t 10) (.skip) (.seq (.region [⟨some 13,none,.bin .eql (.t 3) (.c (.d true (.int .i64 7)))⟩,⟨some 10,none,.mv (.t 13)⟩] [3,10]) (.cond (.t 10) (.skip) (.region [⟨some 14,none,.bin .eql (.t 3) (.c (.d true (.int .i64 8)))⟩,⟨some 10,none,.mv (.t 14)⟩] [10]))))))) (.cond (.t 10) (.seq (.region [⟨some 2,none,.mv (.c (.d true (.int .i64 2)))⟩] [2]) (.ret)) (.skip))))))))) (.seq (.region [⟨some 2,none,.mv (.c (.d true (.int .i64 (-1))))⟩] [2]) (.ret)))
theorem ok100 : FnOk Tryz.prog Tryz.f100 15 keep100 ac100 [.t 2]:=by
  refine ⟨?_,?_,?_,?_,?_⟩ <;> kernel_rfl
def keep101 : Nat → List Nat
  | 0 => [0,1]
  | 1 => [4]
  | _ => []
def ac101 : AC:=.seq (.region [⟨some 4,none,.mv (.c (.d true (.bool false)))⟩] [0,1]) (.seq (.region [⟨some 5,none,.mv (.t 0)⟩,⟨some 6,none,.mv (.t 1)⟩,⟨some 7,none,.call (.c (.fn 114 [])) [.t 5,.t 6]⟩,⟨some 8,none,.bin .geq (.t 7) (.c (.d true (.int .i64 0)))⟩,⟨some 4,none,.mv (.t 8)⟩] [4]) (.ret))
theorem ok101 : FnOk Tryz.prog Tryz.f101 9 keep101 ac101 [.t 4]:=by
  refine ⟨?_,?_,?_,?_,?_⟩ <;> kernel_rfl
def keep102 : Nat → List Nat
  | 0 => [1]
  | 1 => [2]
  | _ => []
def ac102 : AC:=.seq (.region [⟨some 1,none,.box (.t 0)⟩,⟨some 2,none,.mv (.c (.d true (.bool false)))⟩] [1]) (.seq (.region [⟨some 3,none,.ld (some 4) (.t 1)⟩,⟨some 4,none,.call (.c (.fn 82 [])) [.t 3]⟩,⟨some 5,none,.not (.t 4)⟩,⟨some 2,none,.mv (.t 5)⟩] [2]) (.ret))
theorem ok102 : FnOk Tryz.prog Tryz.f102 6 keep102 ac102 [.t 2]:=by
  refine ⟨?_,?_,?_,?_,?_⟩ <;> kernel_rfl
def keep103 : Nat → List Nat
  | 0 => [2,3]
  | 1 => [2,3,7]
  | 2 => [4]
  | 3 => [2,3,18]
  | 4 => [4]
  | 5 => [2,3,29]
  | 6 => [4]
  | 7 => [2,3,40]
  | 8 => [4]
  | 9 => [3,56,57,58]
  | 10 => [3,56,57,58,59]
  | 11 => [3,5,6,56,57,58]
  | 12 => [3,5,6,56,57,58,70]
  | 13 => [4]
  | 14 => [3,56,57,58]
  | 15 => [4]
  | _ => []
def ac103 : AC:=.seq (.region [⟨some 2,none,.box (.t 0)⟩,⟨some 3,none,.box (.t 1)⟩,⟨some 4,none,.mv (.c (.d true (.bool false)))⟩] [2,3]) (.seq (.block 0 (.seq (.region [⟨some 8,none,.fa 0 (.t 2)⟩,⟨some 9,none,.ld none (.t 8)⟩,⟨some 10,none,.fa 0 (.t 3)⟩,⟨some 11,none,.ld none (.t 10)⟩,⟨some 12,none,.bin .neq (.t 9) (.t 11)⟩,⟨some 7,none,.mv (.t 12)⟩] [2,3,7]) (.cond (.t 7) (.seq (.region [⟨some 13,none,.fa 0 (.t 2)⟩,⟨some 14,none,.ld none (.t 13)⟩,⟨some 15,none,.fa 0 (.t 3)⟩,⟨some 16,none,.ld none (.t 15)⟩,⟨some 17,none,.bin .lss (.t 14) (.t 16)⟩,⟨some 4,none,.mv (.t 17)⟩] [4]) (.ret)) (.seq (.region [⟨some 19,none,.fa 1 (.t 2)⟩,⟨some 20,none,.ld none (.t 19)⟩,⟨some 21,none,.fa 1 (.t 3)⟩,⟨some 22,none,.ld none (.t 21)⟩,⟨some 23,none,.bin .neq (.t 20) (.t 22)⟩,⟨some 18,none,.mv (.t 23)⟩] [2,3,18]) (.cond (.t 18) (.seq (.region [⟨some 24,none,.fa 1 (.t 2)⟩,⟨some 25,none,.ld none (.t 24)⟩,⟨some 26,none,.fa 1 (.t 3)⟩,⟨some 27,none,.ld none (.t 26)⟩,⟨some 28,none,.bin .lss (.t 25) (.t 27)⟩,⟨some 4,none,.mv (.t 28)⟩] [4]) (.ret)) (.seq (.region [⟨some 30,none,.fa 2 (.t 2)⟩,⟨some 31,none,.ld none (.t 30)⟩,⟨some 32,none,.fa 2 (.t 3)⟩,⟨some 33,none,.ld none (.t 32)⟩,⟨some 34,none,.bin .neq (.t 31) (.t 33)⟩,⟨some 29,none,.mv (.t 34)⟩] [2,3,29]) (.cond (.t 29) (.seq (.region [⟨some 35,none,.fa 2 (.t 2)⟩,⟨some 36,none,.ld none (.t 35)⟩,⟨some 37,none,.fa 2 (.t 3)⟩,⟨some 38,none,.ld none (.t 37)⟩,⟨some 39,none,.bin .lss (.t 36) (.t 38)⟩,⟨some 4,none,.mv (.t 39)⟩] [4]) (.ret)) (.seq (.region [⟨some 41,none,.fa 3 (.t 2)⟩,⟨some 42,none,.ld none (.t 41)⟩,⟨some 43,none,.len (.t 42)⟩,⟨some 44,none,.fa 3 (.t 3)⟩,⟨some 45,none,.ld none (.t 44)⟩,⟨some 46,none,.len (.t 45)⟩,⟨some 47,none,.bin .neq (.t 43) (.t 46)⟩,⟨some 40,none,.mv (.t 47)⟩] [2,3,40]) (.cond (.t 40) (.seq (.region [⟨some 48,none,.fa 3 (.t 2)⟩,⟨some 49,none,.ld none (.t 48)⟩,⟨some 50,none,.len (.t 49)⟩,⟨some 51,none,.fa 3 (.t 3)⟩,⟨some 52,none,.ld none (.t 51)⟩,⟨some 53,none,.len (.t 52)⟩,⟨some 54,none,.bin .lss (.t 50) (.t 53)⟩,⟨some 4,none,.mv (.t 54)⟩] [4]) (.ret)) (.skip)))))))))) (.seq (.seq (.region [⟨some 55,none,.fa 3 (.t 2)⟩,⟨some 56,none,.ld none (.t 55)⟩,⟨some 57,none,.len (.t 56)⟩,⟨some 58,none,.mv (.c (.d true (.int .i64 0)))⟩] [3,56,57,58]) (.block 1 (.loop (.seq (.region [⟨some 59,none,.bin .lss (.t 58) (.t 57)⟩] [3,56,57,58,59]) (.seq (.cond (.t 59) (.skip) (.exit 1)) (.seq (.block 2 (.seq (.region [⟨some 60,none,.mv (.t 58)⟩,⟨some 61,none,.ia 4 (.t 56) (.t 58)⟩,⟨some 62,none,.ld (some 4) (.t 61)⟩,⟨some 6,none,.alloc [.d true (.int .i64 0),.d true (.int .i64 0),.d true (.str ⟨#[]⟩),.nil]⟩,⟨some 5,none,.mv (.t 60)⟩,⟨none,none,.st 4 (.t 6) (.t 62)⟩] [3,5,6,56,57,58]) (.seq (.draw [⟨some 63,none,.ld (some 4) (.t 6)⟩,⟨some 64,none,.fa 3 (.t 3)⟩,⟨some 65,none,.ld none (.t 64)⟩,⟨some 66,none,.mv (.t 5)⟩,⟨some 67,none,.ia 4 (.t 65) (.t 66)⟩,⟨some 68,none,.ld (some 4) (.t 67)⟩,⟨some 69,none,.call (.c (.fn 24 [])) [.t 63,.t 68]⟩,⟨some 70,none,.not (.t 69)⟩] [3,5,6,56,57,58,70]) (.cond (.t 70) (.seq (.draw [⟨some 71,none,.ld (some 4) (.t 6)⟩,⟨some 72,none,.fa 3 (.t 3)⟩,⟨some 73,none,.ld none (.t 72)⟩,⟨some 74,none,.mv (.t 5)⟩,⟨some 75,none,.ia 4 (.t 73) (.t 74)⟩,⟨some 76,none,.ld (some 4) (.t 75)⟩,⟨some 77,none,.call (.c (.fn 103 [])) [.t 71,.t 76]⟩,⟨some 4,none,.mv (.t 77)⟩] [4]) (.ret)) (.skip))))) (.region [⟨some 78,none,.bin .add (.t 58) (.c (.d true (.int .i64 1)))⟩,⟨some 58,none,.mv (.t 78)⟩] [3,56,57,58]))))))) (.seq (.region [⟨some 4,none,.mv (.c (.d true (.bool false)))⟩] [4]) (.ret))))
theorem ok103 : FnOk Tryz.prog Tryz.f103 79 keep103 ac103 [.t 4]:=by
  refine ⟨?_,?_,?_,?_,?_⟩ <;> kernel_rfl
def keep104 : Nat → List Nat
  | 0 => [0]
  | 1 => [0,3]
  | 2 => [0,3,4]
  | 3 => [0,3,4,5]
  | 4 => [0,3,4,5,10]
  | 5 => [0,3,4,5]
  | 6 => [0,3,4,5,22]
  | 7 => [0,3,5]
  | 8 => [0,3,4,5]
  | 9 => [2]
  | _ => []
def ac104 : AC:=.seq (.region [⟨some 2,none,.own 9 1⟩] [0]) (.seq (.region [⟨some 6,none,.bs 9 1 []⟩,⟨some 3,none,.mv (.t 6)⟩] [0,3]) (.seq (.region [⟨some 4,none,.mv (.c (.d true (.int .i64 0)))⟩] [0,3,4]) (.seq (.seq (.region [⟨some 5,none,.mv (.c (.d true (.int .i64 0)))⟩] [0,3,4,5]) (.block 0 (.loop (.seq (.seq (.region [⟨some 7,none,.mv (.t 5)⟩,⟨some 8,none,.mv (.t 0)⟩,⟨some 9,none,.slen (.t 8)⟩,⟨some 10,none,.bin .leq (.t 7) (.t 9)⟩] [0,3,4,5,10]) (.cond (.t 10) (.skip) (.exit 0))) (.seq (.block 1 (.seq (.region [⟨some 13,none,.mv (.t 5)⟩,⟨some 14,none,.mv (.t 0)⟩,⟨some 15,none,.slen (.t 14)⟩,⟨some 16,none,.bin .eql (.t 13) (.t 15)⟩,⟨some 17,none,.mv (.t 16)⟩,⟨some 18,some (17,false),.mv (.t 0)⟩,⟨some 19,some (17,false),.mv (.t 5)⟩,⟨some 20,some (17,false),.ix (.t 18) (.t 19)⟩,⟨some 21,some (17,false),.bin .eql (.t 20) (.c (.d true (.int .u8 46)))⟩,⟨some 22,none,.pick (.t 17) (.c (.d true (.bool true))) (.t 21)⟩] [0,3,4,5,22]) (.cond (.t 22) (.seq (.region [⟨some 23,none,.mv (.t 3)⟩,⟨some 24,none,.mv (.t 0)⟩,⟨some 25,none,.mv (.t 4)⟩,⟨some 26,none,.mv (.t 5)⟩,⟨some 27,none,.sls (.t 24) (some (.t 25)) (some (.t 26))⟩,⟨some 28,none,.bs 9 1 [.t 27]⟩,⟨some 29,none,.app 9 1 16 (.t 23) (.t 28)⟩,⟨some 3,none,.mv (.t 29)⟩] [0,3,5]) (.region [⟨some 30,none,.mv (.t 5)⟩,⟨some 31,none,.bin .add (.t 30) (.c (.d true (.int .i64 1)))⟩,⟨some 4,none,.mv (.t 31)⟩] [0,3,4,5])) (.skip)))) (.region [⟨some 11,none,.mv (.t 5)⟩,⟨some 12,none,.bin .add (.t 11) (.c (.d true (.int .i64 1)))⟩,⟨some 5,none,.mv (.t 12)⟩] [0,3,4,5])))))) (.seq (.region [⟨some 32,none,.mv (.t 3)⟩,⟨some 2,none,.mv (.t 32)⟩] [2]) (.ret)))))
theorem ok104 : FnOk Tryz.prog Tryz.f104 33 keep104 ac104 [.t 2]:=by
  refine ⟨?_,?_,?_,?_,?_⟩ <;> kernel_rfl
def keep105 : Nat → List Nat
  | 0 => [0]
  | 1 => [0,3]
  | 2 => [0,3,8]
  | 3 => [0,3]
  | 4 => [0,3,4]
  | 5 => [0,3,43]
  | 6 => [2]
  | 7 => [2]
  | _ => []
def ac105 : AC:=.seq (.region [⟨some 2,none,.mv (.c (.d true (.bool false)))⟩] [0]) (.seq (.seq (.region [⟨some 3,none,.mv (.c (.d true (.int .i64 0)))⟩] [0,3]) (.block 0 (.loop (.seq (.seq (.region [⟨some 5,none,.mv (.t 3)⟩,⟨some 6,none,.mv (.t 0)⟩,⟨some 7,none,.slen (.t 6)⟩,⟨some 8,none,.bin .lss (.t 5) (.t 7)⟩] [0,3,8]) (.cond (.t 8) (.skip) (.exit 0))) (.seq (.block 1 (.seq (.region [⟨some 11,none,.mv (.t 0)⟩,⟨some 12,none,.mv (.t 3)⟩,⟨some 13,none,.ix (.t 11) (.t 12)⟩,⟨some 4,none,.mv (.t 13)⟩] [0,3,4]) (.seq (.region [⟨some 14,none,.mv (.t 4)⟩,⟨some 15,none,.bin .geq (.t 14) (.c (.d true (.int .u8 97)))⟩,⟨some 16,none,.mv (.t 15)⟩,⟨some 17,some (16,true),.mv (.t 4)⟩,⟨some 18,some (16,true),.bin .leq (.t 17) (.c (.d true (.int .u8 122)))⟩,⟨some 19,none,.pick (.t 16) (.t 18) (.c (.d true (.bool false)))⟩,⟨some 20,none,.mv (.t 19)⟩,⟨some 21,some (20,false),.mv (.t 4)⟩,⟨some 22,some (20,false),.bin .geq (.t 21) (.c (.d true (.int .u8 48)))⟩,⟨some 23,some (20,false),.mv (.t 22)⟩,⟨some 24,some (23,true),.mv (.t 4)⟩,⟨some 25,some (23,true),.bin .leq (.t 24) (.c (.d true (.int .u8 57)))⟩,⟨some 26,some (20,false),.pick (.t 23) (.t 25) (.c (.d true (.bool false)))⟩,⟨some 27,none,.pick (.t 20) (.c (.d true (.bool true))) (.t 26)⟩,⟨some 28,none,.mv (.t 27)⟩,⟨some 29,some (28,false),.mv (.t 4)⟩,⟨some 30,some (28,false),.bin .eql (.t 29) (.c (.d true (.int .u8 45)))⟩,⟨some 31,some (28,false),.mv (.t 30)⟩,⟨some 32,some (31,true),.mv (.t 3)⟩,⟨some 33,some (31,true),.bin .gtr (.t 32) (.c (.d true (.int .i64 0)))⟩,⟨some 34,some (28,false),.pick (.t 31) (.t 33) (.c (.d true (.bool false)))⟩,⟨some 35,some (28,false),.mv (.t 34)⟩,⟨some 36,some (35,true),.mv (.t 3)⟩,⟨some 37,some (35,true),.mv (.t 0)⟩,⟨some 38,some (35,true),.slen (.t 37)⟩,⟨some 39,some (35,true),.bin .sub (.t 38) (.c (.d true (.int .i64 1)))⟩,⟨some 40,some (35,true),.bin .lss (.t 36) (.t 39)⟩,⟨some 41,some (28,false),.pick (.t 35) (.t 40) (.c (.d true (.bool false)))⟩,⟨some 42,none,.pick (.t 28) (.c (.d true (.bool true))) (.t 41)⟩,⟨some 43,none,.not (.t 42)⟩] [0,3,43]) (.cond (.t 43) (.seq (.region [⟨some 2,none,.mv (.c (.d true (.bool false)))⟩] [2]) (.ret)) (.skip))))) (.region [⟨some 9,none,.mv (.t 3)⟩,⟨some 10,none,.bin .add (.t 9) (.c (.d true (.int .i64 1)))⟩,⟨some 3,none,.mv (.t 10)⟩] [0,3])))))) (.seq (.region [⟨some 44,none,.mv (.t 0)⟩,⟨some 45,none,.slen (.t 44)⟩,⟨some 46,none,.call (.c (.fn 63 [])) [.t 45,.c (.d true (.int .i64 1)),.c (.d true (.int .i64 10))]⟩,⟨some 2,none,.mv (.t 46)⟩] [2]) (.ret)))
theorem ok105 : FnOk Tryz.prog Tryz.f105 47 keep105 ac105 [.t 2]:=by
  refine ⟨?_,?_,?_,?_,?_⟩ <;> kernel_rfl
def keep106 : Nat → List Nat
  | 0 => [0]
  | 1 => [3]
  | 2 => [3,4]
  | 3 => [3,4]
  | 4 => [2]
  | 5 => [3,7]
  | 6 => [3,7]
  | 7 => [2]
  | 8 => [3,10]
  | 9 => [3,10]
  | 10 => [3,10]
  | 11 => [10]
  | 12 => [2]
  | 13 => [2]
  | _ => []
def ac106 : AC:=.seq (.region [⟨some 2,none,.mv (.c (.d true (.int .i64 0)))⟩] [0]) (.seq (.seq (.region [⟨some 3,none,.mv (.t 0)⟩] [3]) (.block 0 (.seq (.seq (.region [⟨some 5,none,.bin .eql (.t 3) (.c (.d true (.int .i64 1)))⟩,⟨some 4,none,.mv (.t 5)⟩] [3,4]) (.cond (.t 4) (.skip) (.region [⟨some 6,none,.bin .eql (.t 3) (.c (.d true (.int .i64 2)))⟩,⟨some 4,none,.mv (.t 6)⟩] [3,4]))) (.cond (.t 4) (.seq (.region [⟨some 2,none,.mv (.c (.d true (.int .i64 0)))⟩] [2]) (.ret)) (.seq (.seq (.region [⟨some 8,none,.bin .eql (.t 3) (.c (.d true (.int .i64 4)))⟩,⟨some 7,none,.mv (.t 8)⟩] [3,7]) (.cond (.t 7) (.skip) (.region [⟨some 9,none,.bin .eql (.t 3) (.c (.d true (.int .i64 6)))⟩,⟨some 7,none,.mv (.t 9)⟩] [3,7]))) (.cond (.t 7) (.seq (.region [⟨some 2,none,.mv (.c (.d true (.int .i64 1)))⟩] [2]) (.ret)) (.seq (.seq (.region [⟨some 11,none,.bin .eql (.t 3) (.c (.d true (.int .i64 3)))⟩,⟨some 10,none,.mv (.t 11)⟩] [3,10]) (.cond (.t 10) (.skip) (.seq (.region [⟨some 12,none,.bin .eql (.t 3) (.c (.d true (.int .i64 5)))⟩,⟨some 10,none,.mv (.t 12)⟩] [3,10]) (.cond (.t 10) (.skip) (.seq (.region [⟨some 13,none,.bin .eql (.t 3) (.c (.d true (.int .i64 7)))⟩,⟨some 10,none,.mv (.t 13)⟩] [3,10]) (.cond (.t 10) (.skip) (.region [⟨some 14,none,.bin .eql (.t 3) (.c (.d true (.int .i64 8)))⟩,⟨some 10,none,.mv (.t 14)⟩] [10]))))))) (.cond (.t 10) (.seq (.region [⟨some 2,none,.mv (.c (.d true (.int .i64 2)))⟩] [2]) (.ret)) (.skip))))))))) (.seq (.region [⟨some 2,none,.mv (.c (.d true (.int .i64 (-1))))⟩] [2]) (.ret)))
theorem ok106 : FnOk Tryz.prog Tryz.f106 15 keep106 ac106 [.t 2]:=by
  refine ⟨?_,?_,?_,?_,?_⟩ <;> kernel_rfl
def keep107 : Nat → List Nat
  | 0 => [2,3]
  | 1 => [2,3,6]
  | 2 => [4]
  | 3 => [2,3,17]
  | 4 => [4]
  | 5 => [2,3,28]
  | 6 => [4]
  | 7 => [2,3,39]
  | 8 => [4]
  | 9 => [2,3,5]
  | 10 => [2,3,5,58]
  | 11 => [2,3,5]
  | 12 => [2,3,5,72]
  | 13 => [4]
  | 14 => [4]
  | _ => []
def ac107 : AC:=.seq (.region [⟨some 2,none,.box (.t 0)⟩,⟨some 3,none,.box (.t 1)⟩,⟨some 4,none,.mv (.c (.d true (.bool false)))⟩] [2,3]) (.seq (.block 0 (.seq (.region [⟨some 7,none,.fa 0 (.t 2)⟩,⟨some 8,none,.ld none (.t 7)⟩,⟨some 9,none,.fa 0 (.t 3)⟩,⟨some 10,none,.ld none (.t 9)⟩,⟨some 11,none,.bin .neq (.t 8) (.t 10)⟩,⟨some 6,none,.mv (.t 11)⟩] [2,3,6]) (.cond (.t 6) (.seq (.region [⟨some 12,none,.fa 0 (.t 2)⟩,⟨some 13,none,.ld none (.t 12)⟩,⟨some 14,none,.fa 0 (.t 3)⟩,⟨some 15,none,.ld none (.t 14)⟩,⟨some 16,none,.bin .lss (.t 13) (.t 15)⟩,⟨some 4,none,.mv (.t 16)⟩] [4]) (.ret)) (.seq (.region [⟨some 18,none,.fa 1 (.t 2)⟩,⟨some 19,none,.ld none (.t 18)⟩,⟨some 20,none,.fa 1 (.t 3)⟩,⟨some 21,none,.ld none (.t 20)⟩,⟨some 22,none,.bin .neq (.t 19) (.t 21)⟩,⟨some 17,none,.mv (.t 22)⟩] [2,3,17]) (.cond (.t 17) (.seq (.region [⟨some 23,none,.fa 1 (.t 2)⟩,⟨some 24,none,.ld none (.t 23)⟩,⟨some 25,none,.fa 1 (.t 3)⟩,⟨some 26,none,.ld none (.t 25)⟩,⟨some 27,none,.bin .lss (.t 24) (.t 26)⟩,⟨some 4,none,.mv (.t 27)⟩] [4]) (.ret)) (.seq (.region [⟨some 29,none,.fa 2 (.t 2)⟩,⟨some 30,none,.ld none (.t 29)⟩,⟨some 31,none,.fa 2 (.t 3)⟩,⟨some 32,none,.ld none (.t 31)⟩,⟨some 33,none,.bin .neq (.t 30) (.t 32)⟩,⟨some 28,none,.mv (.t 33)⟩] [2,3,28]) (.cond (.t 28) (.seq (.region [⟨some 34,none,.fa 2 (.t 2)⟩,⟨some 35,none,.ld none (.t 34)⟩,⟨some 36,none,.fa 2 (.t 3)⟩,⟨some 37,none,.ld none (.t 36)⟩,⟨some 38,none,.bin .lss (.t 35) (.t 37)⟩,⟨some 4,none,.mv (.t 38)⟩] [4]) (.ret)) (.seq (.region [⟨some 40,none,.fa 3 (.t 2)⟩,⟨some 41,none,.ld none (.t 40)⟩,⟨some 42,none,.len (.t 41)⟩,⟨some 43,none,.fa 3 (.t 3)⟩,⟨some 44,none,.ld none (.t 43)⟩,⟨some 45,none,.len (.t 44)⟩,⟨some 46,none,.bin .neq (.t 42) (.t 45)⟩,⟨some 39,none,.mv (.t 46)⟩] [2,3,39]) (.cond (.t 39) (.seq (.region [⟨some 47,none,.fa 3 (.t 2)⟩,⟨some 48,none,.ld none (.t 47)⟩,⟨some 49,none,.len (.t 48)⟩,⟨some 50,none,.fa 3 (.t 3)⟩,⟨some 51,none,.ld none (.t 50)⟩,⟨some 52,none,.len (.t 51)⟩,⟨some 53,none,.bin .lss (.t 49) (.t 52)⟩,⟨some 4,none,.mv (.t 53)⟩] [4]) (.ret)) (.skip)))))))))) (.seq (.seq (.region [⟨some 5,none,.mv (.c (.d true (.int .i64 0)))⟩] [2,3,5]) (.block 1 (.loop (.seq (.seq (.region [⟨some 54,none,.mv (.t 5)⟩,⟨some 55,none,.fa 3 (.t 2)⟩,⟨some 56,none,.ld none (.t 55)⟩,⟨some 57,none,.len (.t 56)⟩,⟨some 58,none,.bin .lss (.t 54) (.t 57)⟩] [2,3,5,58]) (.cond (.t 58) (.skip) (.exit 1))) (.seq (.block 2 (.seq (.draw [⟨some 61,none,.fa 3 (.t 2)⟩,⟨some 62,none,.ld none (.t 61)⟩,⟨some 63,none,.mv (.t 5)⟩,⟨some 64,none,.ia 4 (.t 62) (.t 63)⟩,⟨some 65,none,.ld (some 4) (.t 64)⟩,⟨some 66,none,.fa 3 (.t 3)⟩,⟨some 67,none,.ld none (.t 66)⟩,⟨some 68,none,.mv (.t 5)⟩,⟨some 69,none,.ia 4 (.t 67) (.t 68)⟩,⟨some 70,none,.ld (some 4) (.t 69)⟩,⟨some 71,none,.call (.c (.fn 37 [])) [.t 65,.t 70]⟩,⟨some 72,none,.not (.t 71)⟩] [2,3,5,72]) (.cond (.t 72) (.seq (.draw [⟨some 73,none,.fa 3 (.t 2)⟩,⟨some 74,none,.ld none (.t 73)⟩,⟨some 75,none,.mv (.t 5)⟩,⟨some 76,none,.ia 4 (.t 74) (.t 75)⟩,⟨some 77,none,.ld (some 4) (.t 76)⟩,⟨some 78,none,.fa 3 (.t 3)⟩,⟨some 79,none,.ld none (.t 78)⟩,⟨some 80,none,.mv (.t 5)⟩,⟨some 81,none,.ia 4 (.t 79) (.t 80)⟩,⟨some 82,none,.ld (some 4) (.t 81)⟩,⟨some 83,none,.call (.c (.fn 107 [])) [.t 77,.t 82]⟩,⟨some 4,none,.mv (.t 83)⟩] [4]) (.ret)) (.skip)))) (.region [⟨some 59,none,.mv (.t 5)⟩,⟨some 60,none,.bin .add (.t 59) (.c (.d true (.int .i64 1)))⟩,⟨some 5,none,.mv (.t 60)⟩] [2,3,5])))))) (.seq (.region [⟨some 4,none,.mv (.c (.d true (.bool false)))⟩] [4]) (.ret))))
theorem ok107 : FnOk Tryz.prog Tryz.f107 84 keep107 ac107 [.t 4]:=by
  refine ⟨?_,?_,?_,?_,?_⟩ <;> kernel_rfl
def keep113 : Nat → List Nat
  | 0 => [0,1]
  | 1 => [0,1,7,8]
  | 2 => [0,1,7,8,9]
  | 3 => [0,1,5,7,8]
  | 4 => [0,1,5,7,8,16]
  | 5 => [4]
  | 6 => [0,1,7,8]
  | 7 => [4]
  | _ => []
def ac113 : AC:=.seq (.region [⟨some 4,none,.mv (.c (.d true (.int .i64 0)))⟩] [0,1]) (.seq (.seq (.region [⟨some 6,none,.mv (.t 0)⟩,⟨some 7,none,.len (.t 6)⟩,⟨some 8,none,.mv (.c (.d true (.int .i64 0)))⟩] [0,1,7,8]) (.block 0 (.loop (.seq (.region [⟨some 9,none,.bin .lss (.t 8) (.t 7)⟩] [0,1,7,8,9]) (.seq (.cond (.t 9) (.skip) (.exit 0)) (.seq (.block 1 (.seq (.region [⟨some 10,none,.mv (.t 8)⟩,⟨some 5,none,.mv (.t 10)⟩] [0,1,5,7,8]) (.seq (.region [⟨some 11,none,.mv (.t 1)⟩,⟨some 12,none,.mv (.t 0)⟩,⟨some 13,none,.mv (.t 5)⟩,⟨some 14,none,.ia 1 (.t 12) (.t 13)⟩,⟨some 15,none,.ld none (.t 14)⟩,⟨some 16,none,.call (.t 11) [.t 15]⟩] [0,1,5,7,8,16]) (.cond (.t 16) (.seq (.region [⟨some 17,none,.mv (.t 5)⟩,⟨some 4,none,.mv (.t 17)⟩] [4]) (.ret)) (.skip))))) (.region [⟨some 18,none,.bin .add (.t 8) (.c (.d true (.int .i64 1)))⟩,⟨some 8,none,.mv (.t 18)⟩] [0,1,7,8]))))))) (.seq (.region [⟨some 4,none,.mv (.c (.d true (.int .i64 (-1))))⟩] [4]) (.ret)))
theorem ok113 : FnOk Tryz.prog Tryz.f113 19 keep113 ac113 [.t 4]:=by
  refine ⟨?_,?_,?_,?_,?_⟩ <;> kernel_rfl
def keep114 : Nat → List Nat
  | 0 => [0,1]
  | 1 => [0,1,7,8]
  | 2 => [0,1,7,8,9]
  | 3 => [0,1,5,7,8]
  | 4 => [0,1,5,7,8,16]
  | 5 => [4]
  | 6 => [0,1,7,8]
  | 7 => [4]
  | _ => []
def ac114 : AC:=.seq (.region [⟨some 4,none,.mv (.c (.d true (.int .i64 0)))⟩] [0,1]) (.seq (.seq (.region [⟨some 6,none,.mv (.t 0)⟩,⟨some 7,none,.len (.t 6)⟩,⟨some 8,none,.mv (.c (.d true (.int .i64 0)))⟩] [0,1,7,8]) (.block 0 (.loop (.seq (.region [⟨some 9,none,.bin .lss (.t 8) (.t 7)⟩] [0,1,7,8,9]) (.seq (.cond (.t 9) (.skip) (.exit 0)) (.seq (.block 1 (.seq (.region [⟨some 10,none,.mv (.t 8)⟩,⟨some 5,none,.mv (.t 10)⟩] [0,1,5,7,8]) (.seq (.region [⟨some 11,none,.mv (.t 1)⟩,⟨some 12,none,.mv (.t 0)⟩,⟨some 13,none,.mv (.t 5)⟩,⟨some 14,none,.ia 4 (.t 12) (.t 13)⟩,⟨some 15,none,.ld (some 4) (.t 14)⟩,⟨some 16,none,.call (.t 11) [.t 15]⟩] [0,1,5,7,8,16]) (.cond (.t 16) (.seq (.region [⟨some 17,none,.mv (.t 5)⟩,⟨some 4,none,.mv (.t 17)⟩] [4]) (.ret)) (.skip))))) (.region [⟨some 18,none,.bin .add (.t 8) (.c (.d true (.int .i64 1)))⟩,⟨some 8,none,.mv (.t 18)⟩] [0,1,7,8]))))))) (.seq (.region [⟨some 4,none,.mv (.c (.d true (.int .i64 (-1))))⟩] [4]) (.ret)))
theorem ok114 : FnOk Tryz.prog Tryz.f114 19 keep114 ac114 [.t 4]:=by
  refine ⟨?_,?_,?_,?_,?_⟩ <;> kernel_rfl
end Go.Proofs.YtlddcimpdkcgeaaGreatDoor
