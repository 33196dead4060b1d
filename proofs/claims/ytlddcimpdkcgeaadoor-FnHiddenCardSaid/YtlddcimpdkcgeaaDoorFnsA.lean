/- Functions, as code over abstract states. -/
import Derived.Test.YtlddcimpdkcgeaaDoorS12
import Derived.Test.YtlddcimpdkcgeaaDoorProg
set_option linter.unusedVariables false
set_option linter.unusedSimpArgs false
set_option maxRecDepth 100000
namespace Go.Proofs.YtlddcimpdkcgeaaDoor
open Go.RowKit Sym

theorem mo : Tryd.prog.follows .mixedOrders = true:=by kernel_rfl
/-! laws.FnHidden -/
def keep3 : Nat → List Nat
  | 0 => [0]
  | 1 => [0,12]
  | 2 => [2]
  | 3 => [3]
  | 4 => [3,4]
  | 5 => [3,4,18]
  | 6 => [3,4]
  | 7 => [3,4,34]
  | 8 => [2]
  | 9 => [3,47]
  | 10 => [2]
  | 11 => [3,5,6]
  | 12 => [3,5,6,7]
  | 13 => [3,5,6,7,8]
  | 14 => [3,5,6,7,8,66]
  | 15 => [3,5,6,7,8]
  | 16 => [3,5,6,7,8,74]
  | 17 => [2]
  | 18 => [5,6,7,9]
  | 19 => [5,6,9]
  | 20 => [5,6,9,10]
  | 21 => [2]
  | 1000007 => [1]
  | 1000016 => [1]
  | 1000019 => [1]
  | _ => []
def ac3 : AC:=.seq (.region [⟨some 2,none,.mv (.c (.d true (.bool false)))⟩] [0]) (.seq (.seq (.region [⟨some 11,none,.mv (.t 0)⟩,⟨some 12,none,.call (.c (.fn 9 [])) [.t 11]⟩] [0,12]) (.cond (.t 12) (.seq (.region [⟨some 2,none,.mv (.c (.d true (.bool true)))⟩] [2]) (.ret)) (.skip))) (.seq (.region [⟨some 13,none,.mv (.t 0)⟩,⟨some 14,none,.call (.c (.fn 10 [])) [.t 13]⟩,⟨some 3,none,.mv (.t 14)⟩] [3]) (.seq (.seq (.region [⟨some 4,none,.mv (.c (.d true (.int .i64 0)))⟩] [3,4]) (.block 0 (.loop (.seq (.seq (.region [⟨some 15,none,.mv (.t 4)⟩,⟨some 16,none,.mv (.t 3)⟩,⟨some 17,none,.len (.t 16)⟩,⟨some 18,none,.bin .lss (.t 15) (.t 17)⟩] [3,4,18]) (.cond (.t 18) (.skip) (.exit 0))) (.seq (.block 1 (.seq (.tree (.take ⟨some 21,none,.mv (.t 3)⟩ (.take ⟨some 22,none,.mv (.t 4)⟩ (.take ⟨some 23,none,.ia 4 (.t 21) (.t 22)⟩ (.take ⟨some 24,none,.ld (some 4) (.t 23)⟩ (.br (.cons ⟨some 25,none,.call (.c (.fn 12 [])) [.c (.d true (.int .i64 900))]⟩ (.br (.cons ⟨some 26,none,.call (.c (.fn 11 [])) [.t 24,.t 25]⟩ (.take ⟨some 27,none,.mv (.t 26)⟩ (.take ⟨some 28,some (27,false),.mv (.t 3)⟩ (.take ⟨some 29,some (27,false),.mv (.t 4)⟩ (.take ⟨some 30,some (27,false),.ia 4 (.t 28) (.t 29)⟩ (.take ⟨some 31,some (27,false),.ld (some 4) (.t 30)⟩ (.br (.cons ⟨some 32,some (27,false),.call (.c (.fn 12 [])) [.c (.d true (.int .i64 901))]⟩ (.br (.cons ⟨some 33,some (27,false),.call (.c (.fn 11 [])) [.t 31,.t 32]⟩ (.take ⟨some 34,none,.pick (.t 27) (.c (.d true (.bool true))) (.t 33)⟩ (.done)) (.nil))) (.nil)))))))) (.nil))) (.nil))))))) [3,4,34]) (.cond (.t 34) (.seq (.region [⟨some 2,none,.mv (.c (.d true (.bool true)))⟩] [2]) (.ret)) (.skip)))) (.region [⟨some 19,none,.mv (.t 4)⟩,⟨some 20,none,.bin .add (.t 19) (.c (.d true (.int .i64 1)))⟩,⟨some 4,none,.mv (.t 20)⟩] [3,4])))))) (.seq (.seq (.region [⟨some 35,none,.mv (.t 3)⟩,⟨some 36,none,.call (.c (.fn 13 [])) [.t 35]⟩,⟨some 37,none,.len (.t 36)⟩,⟨some 38,none,.mv (.t 3)⟩,⟨some 39,none,.call (.c (.fn 14 [])) [.t 38]⟩,⟨some 40,none,.len (.t 39)⟩,⟨some 41,none,.bin .neq (.t 37) (.t 40)⟩,⟨some 42,none,.mv (.t 41)⟩,⟨some 43,some (42,false),.mv (.t 3)⟩,⟨some 44,some (42,false),.call (.c (.fn 13 [])) [.t 43]⟩,⟨some 45,some (42,false),.len (.t 44)⟩,⟨some 46,some (42,false),.bin .gtr (.t 45) (.c (.d true (.int .i64 200)))⟩,⟨some 47,none,.pick (.t 42) (.c (.d true (.bool true))) (.t 46)⟩] [3,47]) (.cond (.t 47) (.seq (.region [⟨some 48,none,.mv (.t 3)⟩,⟨some 49,none,.call (.c (.fn 13 [])) [.t 48]⟩,⟨some 50,none,.len (.t 49)⟩,⟨some 51,none,.bin .gtr (.t 50) (.c (.d true (.int .i64 200)))⟩,⟨some 2,none,.mv (.t 51)⟩] [2]) (.ret)) (.skip))) (.seq (.region [⟨some 53,none,.call (.c (.fn 12 [])) [.c (.d true (.int .i64 900))]⟩,⟨some 54,none,.call (.c (.fn 12 [])) [.c (.d true (.int .i64 902))]⟩,⟨some 55,none,.call (.c (.fn 16 [])) [.t 54]⟩,⟨some 56,none,.call (.c (.fn 15 [])) [.t 53,.t 55]⟩,⟨some 52,none,.mv (.t 56)⟩,⟨some 57,none,.ext (.t 52) 0⟩,⟨some 58,none,.ext (.t 52) 1⟩,⟨some 5,none,.alloc [.d true (.int .i64 0),.d true (.int .i64 0),.d true (.str ⟨#[]⟩),.nil]⟩,⟨none,none,.st 4 (.t 5) (.t 57)⟩,⟨some 6,none,.mv (.t 58)⟩] [3,5,6]) (.seq (.region [⟨some 59,none,.ld (some 4) (.t 5)⟩,⟨some 60,none,.call (.c (.fn 18 [])) [.t 59,.c (.d true (.int .i64 1))]⟩,⟨some 61,none,.call (.c (.fn 12 [])) [.c (.d true (.int .i64 901))]⟩,⟨some 62,none,.call (.c (.fn 17 [])) [.t 60,.c (.d true (.int .i64 0)),.t 61]⟩,⟨some 7,none,.alloc [.d true (.int .i64 0),.d true (.int .i64 0),.d true (.str ⟨#[]⟩),.nil]⟩,⟨none,none,.st 4 (.t 7) (.t 62)⟩] [3,5,6,7]) (.seq (.seq (.region [⟨some 8,none,.mv (.c (.d true (.int .i64 0)))⟩] [3,5,6,7,8]) (.block 2 (.loop (.seq (.seq (.region [⟨some 63,none,.mv (.t 8)⟩,⟨some 64,none,.mv (.t 3)⟩,⟨some 65,none,.len (.t 64)⟩,⟨some 66,none,.bin .lss (.t 63) (.t 65)⟩] [3,5,6,7,8,66]) (.cond (.t 66) (.skip) (.exit 2))) (.seq (.block 3 (.seq (.tree (.take ⟨some 69,none,.mv (.t 3)⟩ (.take ⟨some 70,none,.mv (.t 8)⟩ (.take ⟨some 71,none,.ia 4 (.t 69) (.t 70)⟩ (.take ⟨some 72,none,.ld (some 4) (.t 71)⟩ (.br (.cons ⟨some 73,none,.call (.c (.fn 12 [])) [.c (.d true (.int .i64 902))]⟩ (.br (.cons ⟨some 74,none,.call (.c (.fn 11 [])) [.t 72,.t 73]⟩ (.done) (.nil))) (.nil))))))) [3,5,6,7,8,74]) (.cond (.t 74) (.seq (.region [⟨some 2,none,.mv (.c (.d true (.bool true)))⟩] [2]) (.ret)) (.skip)))) (.region [⟨some 67,none,.mv (.t 8)⟩,⟨some 68,none,.bin .add (.t 67) (.c (.d true (.int .i64 1)))⟩,⟨some 8,none,.mv (.t 68)⟩] [3,5,6,7,8])))))) (.seq (.region [⟨some 75,none,.bs 28 4 []⟩,⟨some 76,none,.mv (.t 3)⟩,⟨some 77,none,.app 28 4 56 (.t 75) (.t 76)⟩,⟨some 9,none,.mv (.t 77)⟩] [5,6,7,9]) (.seq (.tree (.take ⟨some 78,none,.mv (.t 9)⟩ (.take ⟨some 79,none,.ld (some 4) (.t 7)⟩ (.br (.cons ⟨some 80,none,.call (.c (.fn 12 [])) [.c (.d true (.int .i64 900))]⟩ (.br (.cons ⟨some 81,none,.call (.c (.fn 16 [])) [.t 80]⟩ (.br (.cons ⟨some 82,none,.call (.c (.fn 12 [])) [.c (.d true (.int .i64 902))]⟩ (.br (.cons ⟨some 83,none,.call (.c (.fn 16 [])) [.t 82]⟩ (.br (.cons ⟨some 84,none,.bs 28 4 [.t 79,.t 81,.t 83]⟩ (.br (.cons ⟨some 85,none,.app 28 4 56 (.t 78) (.t 84)⟩ (.take ⟨some 9,none,.mv (.t 85)⟩ (.done)) (.nil))) (.nil))) (.nil))) (.nil))) (.nil))) (.nil))))) [5,6,9]) (.seq (.region [⟨some 86,none,.bs 28 4 []⟩,⟨some 87,none,.mv (.t 9)⟩,⟨some 88,none,.app 28 4 56 (.t 86) (.t 87)⟩,⟨some 89,none,.call (.c (.fn 12 [])) [.c (.d true (.int .i64 902))]⟩,⟨some 90,none,.bs 28 4 [.t 89]⟩,⟨some 91,none,.app 28 4 56 (.t 88) (.t 90)⟩,⟨some 10,none,.mv (.t 91)⟩] [5,6,9,10]) (.seq (.region [⟨some 92,none,.mv (.t 6)⟩,⟨some 93,none,.mv (.t 92)⟩,⟨some 94,some (93,true),.mv (.t 9)⟩,⟨some 95,some (93,true),.call (.c (.fn 12 [])) [.c (.d true (.int .i64 901))]⟩,⟨some 96,some (93,true),.call (.c (.fn 19 [])) [.t 94,.t 95]⟩,⟨some 97,some (93,true),.not (.t 96)⟩,⟨some 98,none,.pick (.t 93) (.t 97) (.c (.d true (.bool false)))⟩,⟨some 99,none,.mv (.t 98)⟩,⟨some 100,some (99,true),.mv (.t 9)⟩,⟨some 101,some (99,true),.ld (some 4) (.t 5)⟩,⟨some 102,some (99,true),.call (.c (.fn 19 [])) [.t 100,.t 101]⟩,⟨some 103,some (99,true),.not (.t 102)⟩,⟨some 104,none,.pick (.t 99) (.t 103) (.c (.d true (.bool false)))⟩,⟨some 105,none,.mv (.t 104)⟩,⟨some 106,some (105,true),.mv (.t 10)⟩,⟨some 107,some (105,true),.ld (some 4) (.t 5)⟩,⟨some 108,some (105,true),.call (.c (.fn 19 [])) [.t 106,.t 107]⟩,⟨some 109,none,.pick (.t 105) (.t 108) (.c (.d true (.bool false)))⟩,⟨some 110,none,.mv (.t 109)⟩,⟨some 111,some (110,true),.mv (.t 10)⟩,⟨some 112,some (110,true),.call (.c (.fn 12 [])) [.c (.d true (.int .i64 901))]⟩,⟨some 113,some (110,true),.call (.c (.fn 19 [])) [.t 111,.t 112]⟩,⟨some 114,none,.pick (.t 110) (.t 113) (.c (.d true (.bool false)))⟩,⟨some 2,none,.mv (.t 114)⟩] [2]) (.ret))))))))))))
theorem ok3 : FnOk Tryd.prog Tryd.f3 115 keep3 ac3 [.t 2]:=by
  refine ⟨?_,?_,?_,?_,?_⟩ <;> kernel_rfl

/-! laws.FnHosts -/
def keep4 : Nat → List Nat
  | 0 => [0]
  | 1 => [0,11]
  | 2 => [2]
  | 3 => [0,3,4]
  | 4 => [0,3,4,5,6]
  | 5 => [3,4,5,6,7]
  | 6 => [3,4,5,6,7,8]
  | 7 => [3,4,5,8,52]
  | 8 => [2]
  | 9 => [5,62]
  | 10 => [2]
  | 11 => [5,65]
  | 12 => [2]
  | 13 => [5,9]
  | 14 => [2]
  | _ => []
def ac4 : AC:=.seq (.region [⟨some 2,none,.mv (.c (.d true (.bool false)))⟩] [0]) (.seq (.seq (.region [⟨some 10,none,.mv (.t 0)⟩,⟨some 11,none,.call (.c (.fn 9 [])) [.t 10]⟩] [0,11]) (.cond (.t 11) (.seq (.region [⟨some 2,none,.mv (.c (.d true (.bool true)))⟩] [2]) (.ret)) (.skip))) (.seq (.region [⟨some 13,none,.mv (.t 0)⟩,⟨some 14,none,.call (.c (.fn 20 [])) [.t 13]⟩,⟨some 12,none,.mv (.t 14)⟩,⟨some 15,none,.ext (.t 12) 0⟩,⟨some 16,none,.ext (.t 12) 1⟩,⟨some 3,none,.mv (.t 15)⟩,⟨some 4,none,.mv (.t 16)⟩] [0,3,4]) (.seq (.region [⟨some 17,none,.mv (.t 0)⟩,⟨some 18,none,.call (.c (.fn 21 [])) [.t 17]⟩,⟨some 19,none,.mv (.t 0)⟩,⟨some 20,none,.call (.c (.fn 22 [])) [.t 19]⟩,⟨some 5,none,.mv (.t 18)⟩,⟨some 6,none,.mv (.t 20)⟩] [0,3,4,5,6]) (.seq (.region [⟨some 21,none,.mv (.t 0)⟩,⟨some 22,none,.call (.c (.fn 23 [])) [.t 21]⟩,⟨some 7,none,.mv (.t 22)⟩] [3,4,5,6,7]) (.seq (.region [⟨some 23,none,.mv (.t 3)⟩,⟨some 24,none,.mv (.t 4)⟩,⟨some 25,none,.call (.c (.fn 24 [])) [.t 23,.t 24]⟩,⟨some 8,none,.mv (.t 25)⟩] [3,4,5,6,7,8]) (.seq (.seq (.region [⟨some 26,none,.mv (.t 8)⟩,⟨some 27,none,.mv (.t 3)⟩,⟨some 28,none,.mv (.t 4)⟩,⟨some 29,none,.call (.c (.fn 25 [])) [.t 27,.t 28]⟩,⟨some 30,none,.beq true (.t 26) (.t 29)⟩,⟨some 31,none,.mv (.t 30)⟩,⟨some 32,some (31,false),.mv (.t 5)⟩,⟨some 33,some (31,false),.call (.c (.fn 26 [])) [.t 32]⟩,⟨some 34,some (31,false),.mv (.t 5)⟩,⟨some 35,some (31,false),.call (.c (.fn 27 [])) [.t 34]⟩,⟨some 36,some (31,false),.beq true (.t 33) (.t 35)⟩,⟨some 37,none,.pick (.t 31) (.c (.d true (.bool true))) (.t 36)⟩,⟨some 38,none,.mv (.t 37)⟩,⟨some 39,some (38,false),.mv (.t 6)⟩,⟨some 40,some (38,false),.call (.c (.fn 28 [])) [.t 39]⟩,⟨some 41,some (38,false),.mv (.t 6)⟩,⟨some 42,some (38,false),.call (.c (.fn 29 [])) [.t 41]⟩,⟨some 43,some (38,false),.beq true (.t 40) (.t 42)⟩,⟨some 44,none,.pick (.t 38) (.c (.d true (.bool true))) (.t 43)⟩,⟨some 45,none,.mv (.t 44)⟩,⟨some 46,some (45,false),.mv (.t 7)⟩,⟨some 47,some (45,false),.call (.c (.fn 31 [])) [.t 46]⟩,⟨some 48,some (45,false),.mv (.t 7)⟩,⟨some 49,some (45,false),.call (.c (.fn 32 [])) [.t 48]⟩,⟨some 50,some (45,false),.call (.c (.fn 30 [])) [.t 47,.t 49]⟩,⟨some 51,some (45,false),.not (.t 50)⟩,⟨some 52,none,.pick (.t 45) (.c (.d true (.bool true))) (.t 51)⟩] [3,4,5,8,52]) (.cond (.t 52) (.seq (.region [⟨some 2,none,.mv (.c (.d true (.bool false)))⟩] [2]) (.ret)) (.skip))) (.seq (.seq (.region [⟨some 53,none,.mv (.t 8)⟩,⟨some 54,none,.mv (.t 53)⟩,⟨some 55,some (54,true),.mv (.t 3)⟩,⟨some 56,some (54,true),.call (.c (.fn 31 [])) [.t 55]⟩,⟨some 57,some (54,true),.len (.t 56)⟩,⟨some 58,some (54,true),.mv (.t 4)⟩,⟨some 59,some (54,true),.call (.c (.fn 31 [])) [.t 58]⟩,⟨some 60,some (54,true),.len (.t 59)⟩,⟨some 61,some (54,true),.bin .neq (.t 57) (.t 60)⟩,⟨some 62,none,.pick (.t 54) (.t 61) (.c (.d true (.bool false)))⟩] [5,62]) (.cond (.t 62) (.seq (.region [⟨some 2,none,.mv (.c (.d true (.bool false)))⟩] [2]) (.ret)) (.skip))) (.seq (.seq (.region [⟨some 63,none,.mv (.t 5)⟩,⟨some 64,none,.call (.c (.fn 26 [])) [.t 63]⟩,⟨some 65,none,.not (.t 64)⟩] [5,65]) (.cond (.t 65) (.seq (.region [⟨some 2,none,.mv (.c (.d true (.bool true)))⟩] [2]) (.ret)) (.skip))) (.seq (.region [⟨some 66,none,.mv (.t 5)⟩,⟨some 67,none,.mv (.t 5)⟩,⟨some 68,none,.call (.c (.fn 31 [])) [.t 67]⟩,⟨some 69,none,.ia 1 (.t 68) (.c (.d true (.int .i64 0)))⟩,⟨some 70,none,.ld none (.t 69)⟩,⟨some 71,none,.slen (.t 70)⟩,⟨some 72,none,.bin .add (.t 71) (.c (.d true (.int .i64 1)))⟩,⟨some 73,none,.sls (.t 66) (some (.t 72)) none⟩,⟨some 9,none,.mv (.t 73)⟩] [5,9]) (.seq (.region [⟨some 74,none,.mv (.t 5)⟩,⟨some 75,none,.call (.c (.fn 28 [])) [.t 74]⟩,⟨some 76,none,.mv (.t 75)⟩,⟨some 77,some (76,true),.mv (.t 5)⟩,⟨some 78,some (76,true),.mv (.t 5)⟩,⟨some 79,some (76,true),.call (.c (.fn 24 [])) [.t 77,.t 78]⟩,⟨some 80,none,.pick (.t 76) (.t 79) (.c (.d true (.bool false)))⟩,⟨some 81,none,.mv (.t 80)⟩,⟨some 82,some (81,true),.mv (.t 9)⟩,⟨some 83,some (81,true),.call (.c (.fn 26 [])) [.t 82]⟩,⟨some 84,some (81,true),.not (.t 83)⟩,⟨some 85,some (81,true),.mv (.t 84)⟩,⟨some 86,some (85,false),.mv (.t 9)⟩,⟨some 87,some (85,false),.bin .add (.c (.d true (.str ⟨#[42,46]⟩))) (.t 86)⟩,⟨some 88,some (85,false),.mv (.t 5)⟩,⟨some 89,some (85,false),.call (.c (.fn 24 [])) [.t 87,.t 88]⟩,⟨some 90,some (85,false),.mv (.t 89)⟩,⟨some 91,some (90,true),.mv (.t 9)⟩,⟨some 92,some (90,true),.bin .add (.c (.d true (.str ⟨#[42,46]⟩))) (.t 91)⟩,⟨some 93,some (90,true),.mv (.t 5)⟩,⟨some 94,some (90,true),.bin .add (.c (.d true (.str ⟨#[113,46]⟩))) (.t 93)⟩,⟨some 95,some (90,true),.call (.c (.fn 24 [])) [.t 92,.t 94]⟩,⟨some 96,some (90,true),.not (.t 95)⟩,⟨some 97,some (85,false),.pick (.t 90) (.t 96) (.c (.d true (.bool false)))⟩,⟨some 98,some (81,true),.pick (.t 85) (.c (.d true (.bool true))) (.t 97)⟩,⟨some 99,none,.pick (.t 81) (.t 98) (.c (.d true (.bool false)))⟩,⟨some 2,none,.mv (.t 99)⟩] [2]) (.ret)))))))))))
theorem ok4 : FnOk Tryd.prog Tryd.f4 100 keep4 ac4 [.t 2]:=by
  refine ⟨?_,?_,?_,?_,?_⟩ <;> kernel_rfl

/-! laws.FnSeals -/
def keep5 : Nat → List Nat
  | 0 => [0]
  | 1 => [0,29]
  | 2 => [2]
  | 3 => [0,3,4,5]
  | 4 => [0,3,4,5,6]
  | 5 => [0,3,4,5,6,7,8,9]
  | 6 => [0,3,4,5,6,7,8,9,10,11]
  | 7 => [0,3,4,5,6,7,8,9,10,11,12,13]
  | 8 => [0,3,4,5,6,7,8,9,10,11,12,13,14,15]
  | 9 => [0,3,4,5,6,7,8,9,10,11,12,13,14,15,16,17]
  | 10 => [0,3,4,5,6,7,8,9,10,11,12,13,16,17,18,19]
  | 11 => [0,3,4,5,6,7,8,9,10,11,12,13,16,17,18,19,20,21]
  | 12 => [3,4,5,6,7,8,9,10,11,12,13,16,17,18,19,20,21,22,23]
  | 13 => [3,4,5,6,7,8,9,10,11,135]
  | 14 => [2]
  | 15 => [3,4,5,6,7,8,9,10,11,138]
  | 16 => [3,4,5,6,7,8,9,10,11,24,25]
  | 17 => [5,7,8,9,10,11,24,25,27]
  | 18 => [7,8,9,10,11,164]
  | 19 => [2]
  | 20 => [2]
  | 1000013 => [1]
  | 1000020 => [1]
  | _ => []
def ac5 : AC:=.seq (.region [⟨some 2,none,.mv (.c (.d true (.bool false)))⟩] [0]) (.seq (.seq (.region [⟨some 28,none,.mv (.t 0)⟩,⟨some 29,none,.call (.c (.fn 9 [])) [.t 28]⟩] [0,29]) (.cond (.t 29) (.seq (.region [⟨some 2,none,.mv (.c (.d true (.bool true)))⟩] [2]) (.ret)) (.skip))) (.seq (.region [⟨some 31,none,.mv (.t 0)⟩,⟨some 32,none,.call (.c (.fn 33 [])) [.t 31]⟩,⟨some 30,none,.mv (.t 32)⟩,⟨some 33,none,.ext (.t 30) 0⟩,⟨some 34,none,.ext (.t 30) 1⟩,⟨some 35,none,.ext (.t 30) 2⟩,⟨some 3,none,.alloc [.d true (.int .i64 0),.d true (.int .i64 0),.d true (.str ⟨#[]⟩),.nil]⟩,⟨some 5,none,.alloc [.d true (.int .i64 0),.d true (.int .i64 0),.d true (.str ⟨#[]⟩),.nil]⟩,⟨none,none,.st 4 (.t 3) (.t 33)⟩,⟨some 4,none,.mv (.t 34)⟩,⟨none,none,.st 4 (.t 5) (.t 35)⟩] [0,3,4,5]) (.seq (.region [⟨some 36,none,.ld (some 4) (.t 3)⟩,⟨some 37,none,.mv (.t 4)⟩,⟨some 38,none,.ld (some 4) (.t 5)⟩,⟨some 39,none,.call (.c (.fn 17 [])) [.t 36,.t 37,.t 38]⟩,⟨some 6,none,.alloc [.d true (.int .i64 0),.d true (.int .i64 0),.d true (.str ⟨#[]⟩),.nil]⟩,⟨none,none,.st 4 (.t 6) (.t 39)⟩] [0,3,4,5,6]) (.seq (.region [⟨some 41,none,.mv (.t 0)⟩,⟨some 42,none,.call (.c (.fn 34 [])) [.t 41]⟩,⟨some 40,none,.mv (.t 42)⟩,⟨some 43,none,.ext (.t 40) 0⟩,⟨some 44,none,.ext (.t 40) 1⟩,⟨some 45,none,.ext (.t 40) 2⟩,⟨some 7,none,.alloc [.d true (.int .i64 0),.d true (.int .i64 0),.d true (.str ⟨#[]⟩),.nil]⟩,⟨some 9,none,.alloc [.d true (.int .i64 0),.d true (.int .i64 0),.d true (.str ⟨#[]⟩),.nil]⟩,⟨none,none,.st 4 (.t 7) (.t 43)⟩,⟨some 8,none,.mv (.t 44)⟩,⟨none,none,.st 4 (.t 9) (.t 45)⟩] [0,3,4,5,6,7,8,9]) (.seq (.region [⟨some 47,none,.ld (some 4) (.t 7)⟩,⟨some 48,none,.mv (.t 8)⟩,⟨some 49,none,.ld (some 4) (.t 9)⟩,⟨some 50,none,.call (.c (.fn 35 [])) [.t 47,.t 48,.t 49]⟩,⟨some 46,none,.mv (.t 50)⟩,⟨some 51,none,.ext (.t 46) 0⟩,⟨some 52,none,.ext (.t 46) 1⟩,⟨some 10,none,.alloc [.d true (.int .i64 0),.d true (.int .i64 0),.d true (.str ⟨#[]⟩),.nil]⟩,⟨none,none,.st 4 (.t 10) (.t 51)⟩,⟨some 11,none,.mv (.t 52)⟩] [0,3,4,5,6,7,8,9,10,11]) (.seq (.region [⟨some 54,none,.ld (some 4) (.t 7)⟩,⟨some 55,none,.mv (.t 8)⟩,⟨some 56,none,.ld (some 4) (.t 9)⟩,⟨some 57,none,.call (.c (.fn 36 [])) [.t 54,.t 55,.t 56]⟩,⟨some 53,none,.mv (.t 57)⟩,⟨some 58,none,.ext (.t 53) 0⟩,⟨some 59,none,.ext (.t 53) 1⟩,⟨some 12,none,.alloc [.d true (.int .i64 0),.d true (.int .i64 0),.d true (.str ⟨#[]⟩),.nil]⟩,⟨none,none,.st 4 (.t 12) (.t 58)⟩,⟨some 13,none,.mv (.t 59)⟩] [0,3,4,5,6,7,8,9,10,11,12,13]) (.seq (.region [⟨some 61,none,.mv (.t 0)⟩,⟨some 62,none,.call (.c (.fn 37 [])) [.t 61]⟩,⟨some 60,none,.mv (.t 62)⟩,⟨some 63,none,.ext (.t 60) 0⟩,⟨some 64,none,.ext (.t 60) 1⟩,⟨some 14,none,.alloc [.d true (.int .i64 0),.d true (.int .i64 0),.d true (.str ⟨#[]⟩),.nil]⟩,⟨some 15,none,.alloc [.d true (.int .i64 0),.d true (.int .i64 0),.d true (.str ⟨#[]⟩),.nil]⟩,⟨none,none,.st 4 (.t 14) (.t 63)⟩,⟨none,none,.st 4 (.t 15) (.t 64)⟩] [0,3,4,5,6,7,8,9,10,11,12,13,14,15]) (.seq (.region [⟨some 66,none,.ld (some 4) (.t 14)⟩,⟨some 67,none,.ld (some 4) (.t 15)⟩,⟨some 68,none,.call (.c (.fn 38 [])) [.t 66,.t 67]⟩,⟨some 65,none,.mv (.t 68)⟩,⟨some 69,none,.ext (.t 65) 0⟩,⟨some 70,none,.ext (.t 65) 1⟩,⟨some 16,none,.alloc [.d true (.int .i64 0),.d true (.int .i64 0),.d true (.str ⟨#[]⟩),.nil]⟩,⟨none,none,.st 4 (.t 16) (.t 69)⟩,⟨some 17,none,.mv (.t 70)⟩] [0,3,4,5,6,7,8,9,10,11,12,13,14,15,16,17]) (.seq (.region [⟨some 72,none,.ld (some 4) (.t 14)⟩,⟨some 73,none,.ld (some 4) (.t 15)⟩,⟨some 74,none,.call (.c (.fn 39 [])) [.t 72,.t 73]⟩,⟨some 71,none,.mv (.t 74)⟩,⟨some 75,none,.ext (.t 71) 0⟩,⟨some 76,none,.ext (.t 71) 1⟩,⟨some 18,none,.alloc [.d true (.int .i64 0),.d true (.int .i64 0),.d true (.str ⟨#[]⟩),.nil]⟩,⟨none,none,.st 4 (.t 18) (.t 75)⟩,⟨some 19,none,.mv (.t 76)⟩] [0,3,4,5,6,7,8,9,10,11,12,13,16,17,18,19]) (.seq (.region [⟨some 78,none,.mv (.t 0)⟩,⟨some 79,none,.call (.c (.fn 40 [])) [.t 78]⟩,⟨some 77,none,.mv (.t 79)⟩,⟨some 80,none,.ext (.t 77) 0⟩,⟨some 81,none,.ext (.t 77) 1⟩,⟨some 20,none,.alloc [.d true (.int .i64 0),.d true (.int .i64 0),.d true (.str ⟨#[]⟩),.nil]⟩,⟨some 21,none,.alloc [.d true (.int .i64 0),.d true (.int .i64 0),.d true (.str ⟨#[]⟩),.nil]⟩,⟨none,none,.st 4 (.t 20) (.t 80)⟩,⟨none,none,.st 4 (.t 21) (.t 81)⟩] [0,3,4,5,6,7,8,9,10,11,12,13,16,17,18,19,20,21]) (.seq (.region [⟨some 83,none,.mv (.t 0)⟩,⟨some 84,none,.call (.c (.fn 41 [])) [.t 83]⟩,⟨some 82,none,.mv (.t 84)⟩,⟨some 85,none,.ext (.t 82) 0⟩,⟨some 86,none,.ext (.t 82) 1⟩,⟨some 22,none,.alloc [.d true (.int .i64 0),.d true (.int .i64 0),.d true (.str ⟨#[]⟩),.nil]⟩,⟨none,none,.st 4 (.t 22) (.t 85)⟩,⟨some 23,none,.mv (.t 86)⟩] [3,4,5,6,7,8,9,10,11,12,13,16,17,18,19,20,21,22,23]) (.seq (.seq (.tree (.take ⟨some 87,none,.ld (some 4) (.t 6)⟩ (.take ⟨some 88,none,.ld (some 4) (.t 3)⟩ (.take ⟨some 89,none,.mv (.t 4)⟩ (.take ⟨some 90,none,.ld (some 4) (.t 5)⟩ (.br (.cons ⟨some 91,none,.call (.c (.fn 43 [])) [.t 88,.t 89,.t 90]⟩ (.br (.cons ⟨some 92,none,.call (.c (.fn 42 [])) [.t 87,.t 91]⟩ (.take ⟨some 93,none,.not (.t 92)⟩ (.take ⟨some 94,none,.mv (.t 93)⟩ (.take ⟨some 95,some (94,false),.mv (.t 11)⟩ (.take ⟨some 96,some (94,false),.mv (.t 13)⟩ (.take ⟨some 97,some (94,false),.beq true (.t 95) (.t 96)⟩ (.take ⟨some 98,none,.pick (.t 94) (.c (.d true (.bool true))) (.t 97)⟩ (.take ⟨some 99,none,.mv (.t 98)⟩ (.take ⟨some 100,some (99,false),.ld (some 4) (.t 10)⟩ (.take ⟨some 101,some (99,false),.ld (some 4) (.t 12)⟩ (.br (.cons ⟨some 102,some (99,false),.call (.c (.fn 42 [])) [.t 100,.t 101]⟩ (.take ⟨some 103,some (99,false),.not (.t 102)⟩ (.take ⟨some 104,none,.pick (.t 99) (.c (.d true (.bool true))) (.t 103)⟩ (.take ⟨some 105,none,.mv (.t 104)⟩ (.take ⟨some 106,some (105,false),.mv (.t 17)⟩ (.take ⟨some 107,some (105,false),.mv (.t 19)⟩ (.take ⟨some 108,some (105,false),.beq true (.t 106) (.t 107)⟩ (.take ⟨some 109,none,.pick (.t 105) (.c (.d true (.bool true))) (.t 108)⟩ (.take ⟨some 110,none,.mv (.t 109)⟩ (.take ⟨some 111,some (110,false),.ld (some 4) (.t 16)⟩ (.take ⟨some 112,some (110,false),.ld (some 4) (.t 18)⟩ (.br (.cons ⟨some 113,some (110,false),.call (.c (.fn 42 [])) [.t 111,.t 112]⟩ (.take ⟨some 114,some (110,false),.not (.t 113)⟩ (.take ⟨some 115,none,.pick (.t 110) (.c (.d true (.bool true))) (.t 114)⟩ (.take ⟨some 116,none,.mv (.t 115)⟩ (.take ⟨some 117,some (116,false),.ld (some 4) (.t 20)⟩ (.take ⟨some 118,some (116,false),.ld (some 4) (.t 21)⟩ (.take ⟨some 120,some (116,false),.ld (some 4) (.t 20)⟩ (.take ⟨some 121,some (116,false),.ld (some 4) (.t 21)⟩ (.br (.cons ⟨some 119,some (116,false),.call (.c (.fn 44 [])) [.t 117,.t 118]⟩ (.br (.cons ⟨some 122,some (116,false),.call (.c (.fn 45 [])) [.t 120,.t 121]⟩ (.br (.cons ⟨some 123,some (116,false),.call (.c (.fn 42 [])) [.t 119,.t 122]⟩ (.take ⟨some 124,some (116,false),.not (.t 123)⟩ (.take ⟨some 125,none,.pick (.t 116) (.c (.d true (.bool true))) (.t 124)⟩ (.take ⟨some 126,none,.mv (.t 125)⟩ (.take ⟨some 127,some (126,false),.ld (some 4) (.t 22)⟩ (.take ⟨some 128,some (126,false),.mv (.t 23)⟩ (.take ⟨some 130,some (126,false),.ld (some 4) (.t 22)⟩ (.take ⟨some 131,some (126,false),.mv (.t 23)⟩ (.br (.cons ⟨some 129,some (126,false),.call (.c (.fn 18 [])) [.t 127,.t 128]⟩ (.br (.cons ⟨some 132,some (126,false),.call (.c (.fn 46 [])) [.t 130,.t 131]⟩ (.br (.cons ⟨some 133,some (126,false),.call (.c (.fn 42 [])) [.t 129,.t 132]⟩ (.take ⟨some 134,some (126,false),.not (.t 133)⟩ (.take ⟨some 135,none,.pick (.t 126) (.c (.d true (.bool true))) (.t 134)⟩ (.done))) (.nil))) (.nil))) (.nil)))))))))) (.nil))) (.nil))) (.nil)))))))))) (.nil))))))))))))) (.nil)))))))))))) (.nil))) (.nil))))))) [3,4,5,6,7,8,9,10,11,135]) (.cond (.t 135) (.seq (.region [⟨some 2,none,.mv (.c (.d true (.bool false)))⟩] [2]) (.ret)) (.skip))) (.seq (.seq (.region [⟨some 136,none,.fa 0 (.t 6)⟩,⟨some 137,none,.ld none (.t 136)⟩,⟨some 138,none,.bin .eql (.t 137) (.c (.d true (.int .i64 7)))⟩] [3,4,5,6,7,8,9,10,11,138]) (.cond (.t 138) (.seq (.region [⟨some 140,none,.ld (some 4) (.t 3)⟩,⟨some 141,none,.mv (.t 4)⟩,⟨some 142,none,.ld (some 4) (.t 6)⟩,⟨some 143,none,.call (.c (.fn 35 [])) [.t 140,.t 141,.t 142]⟩,⟨some 139,none,.mv (.t 143)⟩,⟨some 144,none,.ext (.t 139) 0⟩,⟨some 145,none,.ext (.t 139) 1⟩,⟨some 24,none,.alloc [.d true (.int .i64 0),.d true (.int .i64 0),.d true (.str ⟨#[]⟩),.nil]⟩,⟨none,none,.st 4 (.t 24) (.t 144)⟩,⟨some 25,none,.mv (.t 145)⟩] [3,4,5,6,7,8,9,10,11,24,25]) (.seq (.region [⟨some 147,none,.ld (some 4) (.t 3)⟩,⟨some 148,none,.mv (.t 4)⟩,⟨some 149,none,.bin .add (.t 148) (.c (.d true (.int .i64 1)))⟩,⟨some 150,none,.ld (some 4) (.t 6)⟩,⟨some 151,none,.call (.c (.fn 35 [])) [.t 147,.t 149,.t 150]⟩,⟨some 146,none,.mv (.t 151)⟩,⟨some 152,none,.ext (.t 146) 0⟩,⟨some 153,none,.ext (.t 146) 1⟩,⟨some 26,none,.alloc [.d true (.int .i64 0),.d true (.int .i64 0),.d true (.str ⟨#[]⟩),.nil]⟩,⟨none,none,.st 4 (.t 26) (.t 152)⟩,⟨some 27,none,.mv (.t 153)⟩] [5,7,8,9,10,11,24,25,27]) (.seq (.region [⟨some 154,none,.mv (.t 25)⟩,⟨some 155,none,.not (.t 154)⟩,⟨some 156,none,.mv (.t 155)⟩,⟨some 157,some (156,false),.ld (some 4) (.t 24)⟩,⟨some 158,some (156,false),.ld (some 4) (.t 5)⟩,⟨some 159,some (156,false),.call (.c (.fn 42 [])) [.t 157,.t 158]⟩,⟨some 160,some (156,false),.not (.t 159)⟩,⟨some 161,none,.pick (.t 156) (.c (.d true (.bool true))) (.t 160)⟩,⟨some 162,none,.mv (.t 161)⟩,⟨some 163,some (162,false),.mv (.t 27)⟩,⟨some 164,none,.pick (.t 162) (.c (.d true (.bool true))) (.t 163)⟩] [7,8,9,10,11,164]) (.cond (.t 164) (.seq (.region [⟨some 2,none,.mv (.c (.d true (.bool false)))⟩] [2]) (.ret)) (.skip))))) (.skip))) (.seq (.tree (.take ⟨some 165,none,.mv (.t 11)⟩ (.take ⟨some 166,none,.not (.t 165)⟩ (.take ⟨some 167,none,.mv (.t 166)⟩ (.take ⟨some 168,some (167,false),.ld (some 4) (.t 7)⟩ (.take ⟨some 169,some (167,false),.mv (.t 8)⟩ (.take ⟨some 170,some (167,false),.ld (some 4) (.t 10)⟩ (.take ⟨some 172,some (167,false),.ld (some 4) (.t 9)⟩ (.br (.cons ⟨some 171,some (167,false),.call (.c (.fn 17 [])) [.t 168,.t 169,.t 170]⟩ (.br (.cons ⟨some 173,some (167,false),.call (.c (.fn 42 [])) [.t 171,.t 172]⟩ (.take ⟨some 174,none,.pick (.t 167) (.c (.d true (.bool true))) (.t 173)⟩ (.take ⟨some 2,none,.mv (.t 174)⟩ (.done))) (.nil))) (.nil)))))))))) [2]) (.ret)))))))))))))))
theorem ok5 : FnOk Tryd.prog Tryd.f5 175 keep5 ac5 [.t 2]:=by
  refine ⟨?_,?_,?_,?_,?_⟩ <;> kernel_rfl

/-! laws.FnTerms -/
def keep6 : Nat → List Nat
  | 0 => [0]
  | 1 => [0,11]
  | 2 => [2]
  | 3 => [0,3,4]
  | 4 => [0,3,4,5,6]
  | 5 => [0,3,4,5,6,7]
  | 6 => [3,4,5,6,7,8,9]
  | 7 => [3,4,64]
  | 8 => [2]
  | 9 => [3,4,67]
  | 10 => [2]
  | 11 => [2]
  | _ => []
def ac6 : AC:=.seq (.region [⟨some 2,none,.mv (.c (.d true (.bool false)))⟩] [0]) (.seq (.seq (.region [⟨some 10,none,.mv (.t 0)⟩,⟨some 11,none,.call (.c (.fn 9 [])) [.t 10]⟩] [0,11]) (.cond (.t 11) (.seq (.region [⟨some 2,none,.mv (.c (.d true (.bool true)))⟩] [2]) (.ret)) (.skip))) (.seq (.region [⟨some 13,none,.mv (.t 0)⟩,⟨some 14,none,.call (.c (.fn 47 [])) [.t 13]⟩,⟨some 12,none,.mv (.t 14)⟩,⟨some 15,none,.ext (.t 12) 0⟩,⟨some 16,none,.ext (.t 12) 1⟩,⟨some 3,none,.alloc [.d true (.int .i64 0),.d true (.int .i64 0),.d true (.str ⟨#[]⟩),.nil]⟩,⟨some 4,none,.alloc [.d true (.int .i64 0),.d true (.int .i64 0),.d true (.str ⟨#[]⟩),.nil]⟩,⟨none,none,.st 4 (.t 3) (.t 15)⟩,⟨none,none,.st 4 (.t 4) (.t 16)⟩] [0,3,4]) (.seq (.region [⟨some 18,none,.mv (.t 0)⟩,⟨some 19,none,.call (.c (.fn 48 [])) [.t 18]⟩,⟨some 17,none,.mv (.t 19)⟩,⟨some 20,none,.ext (.t 17) 0⟩,⟨some 21,none,.ext (.t 17) 1⟩,⟨some 5,none,.alloc [.d true (.int .i64 0),.d true (.int .i64 0),.d true (.str ⟨#[]⟩),.nil]⟩,⟨some 6,none,.alloc [.d true (.int .i64 0),.d true (.int .i64 0),.d true (.str ⟨#[]⟩),.nil]⟩,⟨none,none,.st 4 (.t 5) (.t 20)⟩,⟨none,none,.st 4 (.t 6) (.t 21)⟩] [0,3,4,5,6]) (.seq (.region [⟨some 22,none,.mv (.t 0)⟩,⟨some 23,none,.call (.c (.fn 49 [])) [.t 22]⟩,⟨some 7,none,.alloc [.d true (.int .i64 0),.d true (.int .i64 0),.d true (.str ⟨#[]⟩),.nil]⟩,⟨none,none,.st 4 (.t 7) (.t 23)⟩] [0,3,4,5,6,7]) (.seq (.region [⟨some 24,none,.mv (.t 0)⟩,⟨some 25,none,.call (.c (.fn 50 [])) [.t 24]⟩,⟨some 26,none,.mv (.t 0)⟩,⟨some 27,none,.call (.c (.fn 51 [])) [.t 26]⟩,⟨some 8,none,.alloc [.d true (.int .i64 0),.d true (.int .i64 0),.d true (.str ⟨#[]⟩),.nil]⟩,⟨some 9,none,.alloc [.d true (.int .i64 0),.d true (.int .i64 0),.d true (.str ⟨#[]⟩),.nil]⟩,⟨none,none,.st 4 (.t 8) (.t 25)⟩,⟨none,none,.st 4 (.t 9) (.t 27)⟩] [3,4,5,6,7,8,9]) (.seq (.seq (.draw [⟨some 28,none,.ld (some 4) (.t 3)⟩,⟨some 29,none,.ld (some 4) (.t 4)⟩,⟨some 30,none,.call (.c (.fn 52 [])) [.t 28,.t 29]⟩,⟨some 31,none,.ld (some 4) (.t 3)⟩,⟨some 32,none,.ld (some 4) (.t 4)⟩,⟨some 33,none,.call (.c (.fn 53 [])) [.t 31,.t 32]⟩,⟨some 34,none,.beq true (.t 30) (.t 33)⟩,⟨some 35,none,.mv (.t 34)⟩,⟨some 36,some (35,false),.ld (some 4) (.t 5)⟩,⟨some 37,some (35,false),.ld (some 4) (.t 6)⟩,⟨some 38,some (35,false),.call (.c (.fn 42 [])) [.t 36,.t 37]⟩,⟨some 39,some (35,false),.ld (some 4) (.t 5)⟩,⟨some 40,some (35,false),.ld (some 4) (.t 6)⟩,⟨some 41,some (35,false),.call (.c (.fn 54 [])) [.t 39,.t 40]⟩,⟨some 42,some (35,false),.beq true (.t 38) (.t 41)⟩,⟨some 43,none,.pick (.t 35) (.c (.d true (.bool true))) (.t 42)⟩,⟨some 44,none,.mv (.t 43)⟩,⟨some 45,some (44,false),.ld (some 4) (.t 7)⟩,⟨some 46,some (44,false),.call (.c (.fn 55 [])) [.t 45]⟩,⟨some 47,some (44,false),.ld (some 4) (.t 7)⟩,⟨some 48,some (44,false),.call (.c (.fn 56 [])) [.t 47]⟩,⟨some 49,some (44,false),.beq true (.t 46) (.t 48)⟩,⟨some 50,none,.pick (.t 44) (.c (.d true (.bool true))) (.t 49)⟩,⟨some 51,none,.mv (.t 50)⟩,⟨some 52,some (51,false),.ld (some 4) (.t 8)⟩,⟨some 53,some (51,false),.call (.c (.fn 57 [])) [.t 52]⟩,⟨some 54,some (51,false),.ld (some 4) (.t 8)⟩,⟨some 55,some (51,false),.call (.c (.fn 58 [])) [.t 54]⟩,⟨some 56,some (51,false),.bin .neq (.t 53) (.t 55)⟩,⟨some 57,none,.pick (.t 51) (.c (.d true (.bool true))) (.t 56)⟩,⟨some 58,none,.mv (.t 57)⟩,⟨some 59,some (58,false),.ld (some 4) (.t 9)⟩,⟨some 60,some (58,false),.call (.c (.fn 59 [])) [.t 59]⟩,⟨some 61,some (58,false),.ld (some 4) (.t 9)⟩,⟨some 62,some (58,false),.call (.c (.fn 60 [])) [.t 61]⟩,⟨some 63,some (58,false),.bin .neq (.t 60) (.t 62)⟩,⟨some 64,none,.pick (.t 58) (.c (.d true (.bool true))) (.t 63)⟩] [3,4,64]) (.cond (.t 64) (.seq (.region [⟨some 2,none,.mv (.c (.d true (.bool false)))⟩] [2]) (.ret)) (.skip))) (.seq (.seq (.region [⟨some 65,none,.ld (some 4) (.t 3)⟩,⟨some 66,none,.ld (some 4) (.t 4)⟩,⟨some 67,none,.call (.c (.fn 42 [])) [.t 65,.t 66]⟩] [3,4,67]) (.cond (.t 67) (.seq (.draw [⟨some 68,none,.ld (some 4) (.t 3)⟩,⟨some 69,none,.ld (some 4) (.t 4)⟩,⟨some 70,none,.call (.c (.fn 52 [])) [.t 68,.t 69]⟩,⟨some 71,none,.not (.t 70)⟩,⟨some 72,none,.mv (.t 71)⟩,⟨some 73,some (72,true),.ld (some 4) (.t 4)⟩,⟨some 74,some (72,true),.ld (some 4) (.t 3)⟩,⟨some 75,some (72,true),.call (.c (.fn 52 [])) [.t 73,.t 74]⟩,⟨some 76,some (72,true),.not (.t 75)⟩,⟨some 77,none,.pick (.t 72) (.t 76) (.c (.d true (.bool false)))⟩,⟨some 78,none,.mv (.t 77)⟩,⟨some 79,some (78,true),.ld (some 4) (.t 3)⟩,⟨some 80,some (78,true),.call (.c (.fn 59 [])) [.t 79]⟩,⟨some 81,some (78,true),.ld (some 4) (.t 4)⟩,⟨some 82,some (78,true),.call (.c (.fn 59 [])) [.t 81]⟩,⟨some 83,some (78,true),.bin .eql (.t 80) (.t 82)⟩,⟨some 84,none,.pick (.t 78) (.t 83) (.c (.d true (.bool false)))⟩,⟨some 2,none,.mv (.t 84)⟩] [2]) (.ret)) (.skip))) (.seq (.draw [⟨some 85,none,.ld (some 4) (.t 3)⟩,⟨some 86,none,.ld (some 4) (.t 4)⟩,⟨some 87,none,.call (.c (.fn 52 [])) [.t 85,.t 86]⟩,⟨some 88,none,.ld (some 4) (.t 4)⟩,⟨some 89,none,.ld (some 4) (.t 3)⟩,⟨some 90,none,.call (.c (.fn 52 [])) [.t 88,.t 89]⟩,⟨some 91,none,.beq true (.t 87) (.t 90)⟩,⟨some 2,none,.mv (.t 91)⟩] [2]) (.ret)))))))))
theorem ok6 : FnOk Tryd.prog Tryd.f6 92 keep6 ac6 [.t 2]:=by
  refine ⟨?_,?_,?_,?_,?_⟩ <;> kernel_rfl

/-! laws.FnExactPolicyText -/
/-! laws.FnExactCertTerm -/
/-! laws.big -/
def keep9 : Nat → List Nat
  | 0 => [0]
  | 1 => [2]
  | _ => []
def ac9 : AC:=.seq (.region [⟨some 2,none,.mv (.c (.d true (.bool false)))⟩] [0]) (.seq (.region [⟨some 3,none,.mv (.t 0)⟩,⟨some 4,none,.len (.t 3)⟩,⟨some 5,none,.bin .gtr (.t 4) (.c (.d true (.int .i64 1048576)))⟩,⟨some 2,none,.mv (.t 5)⟩] [2]) (.ret))
theorem ok9 : FnOk Tryd.prog Tryd.f9 6 keep9 ac9 [.t 2]:=by
  refine ⟨?_,?_,?_,?_,?_⟩ <;> kernel_rfl

/-! spec.DrawParts -/
def keep10 : Nat → List Nat
  | 0 => [0]
  | 1 => [2]
  | _ => []
def ac10 : AC:=.seq (.region [⟨some 2,none,.own 28 4⟩] [0]) (.seq (.region [⟨some 3,none,.mv (.t 0)⟩,⟨some 4,none,.call (.c (.fn 76 [])) [.t 3]⟩,⟨some 5,none,.call (.c (.fn 75 [])) [.t 4]⟩,⟨some 2,none,.mv (.t 5)⟩] [2]) (.ret))
theorem ok10 : FnOk Tryd.prog Tryd.f10 6 keep10 ac10 [.t 2]:=by
  refine ⟨?_,?_,?_,?_,?_⟩ <;> kernel_rfl

/-! laws.has -/
def keep11 : Nat → List Nat
  | 0 => [2,3]
  | 1 => [2,3,8]
  | 2 => [4]
  | 3 => [2,3,5]
  | 4 => [2,3,5,13]
  | 5 => [2,3,5]
  | 6 => [2,3,5,22]
  | 7 => [4]
  | 8 => [4]
  | _ => []
def ac11 : AC:=.seq (.region [⟨some 2,none,.box (.t 0)⟩,⟨some 3,none,.box (.t 1)⟩,⟨some 4,none,.mv (.c (.d true (.bool false)))⟩] [2,3]) (.seq (.seq (.region [⟨some 6,none,.ld (some 4) (.t 2)⟩,⟨some 7,none,.ld (some 4) (.t 3)⟩,⟨some 8,none,.call (.c (.fn 42 [])) [.t 6,.t 7]⟩] [2,3,8]) (.cond (.t 8) (.seq (.region [⟨some 4,none,.mv (.c (.d true (.bool true)))⟩] [4]) (.ret)) (.skip))) (.seq (.seq (.region [⟨some 5,none,.mv (.c (.d true (.int .i64 0)))⟩] [2,3,5]) (.block 0 (.loop (.seq (.seq (.region [⟨some 9,none,.mv (.t 5)⟩,⟨some 10,none,.fa 3 (.t 2)⟩,⟨some 11,none,.ld none (.t 10)⟩,⟨some 12,none,.len (.t 11)⟩,⟨some 13,none,.bin .lss (.t 9) (.t 12)⟩] [2,3,5,13]) (.cond (.t 13) (.skip) (.exit 0))) (.seq (.block 1 (.seq (.draw [⟨some 16,none,.fa 3 (.t 2)⟩,⟨some 17,none,.ld none (.t 16)⟩,⟨some 18,none,.mv (.t 5)⟩,⟨some 19,none,.ia 4 (.t 17) (.t 18)⟩,⟨some 20,none,.ld (some 4) (.t 19)⟩,⟨some 21,none,.ld (some 4) (.t 3)⟩,⟨some 22,none,.call (.c (.fn 11 [])) [.t 20,.t 21]⟩] [2,3,5,22]) (.cond (.t 22) (.seq (.region [⟨some 4,none,.mv (.c (.d true (.bool true)))⟩] [4]) (.ret)) (.skip)))) (.region [⟨some 14,none,.mv (.t 5)⟩,⟨some 15,none,.bin .add (.t 14) (.c (.d true (.int .i64 1)))⟩,⟨some 5,none,.mv (.t 15)⟩] [2,3,5])))))) (.seq (.region [⟨some 4,none,.mv (.c (.d true (.bool false)))⟩] [4]) (.ret))))
theorem ok11 : FnOk Tryd.prog Tryd.f11 23 keep11 ac11 [.t 4]:=by
  refine ⟨?_,?_,?_,?_,?_⟩ <;> kernel_rfl

/-! impl.Atom -/
def keep12 : Nat → List Nat
  | 0 => [0,2]
  | 1 => [2]
  | _ => []
def ac12 : AC:=.seq (.region [⟨some 2,none,.alloc [.d true (.int .i64 0),.d true (.int .i64 0),.d true (.str ⟨#[]⟩),.nil]⟩] [0,2]) (.seq (.region [⟨some 3,none,.mv (.t 0)⟩,⟨some 4,none,.bld [.d true (.int .i64 0),.d true (.int .i64 0),.d true (.str ⟨#[]⟩),.nil] [(0,1,.c (.d true (.int .i64 1))),(1,1,.t 3)]⟩,⟨some 5,none,.call (.c (.fn 77 [])) [.t 4]⟩,⟨none,none,.st 4 (.t 2) (.t 5)⟩] [2]) (.ret))
theorem ok12 : FnOk Tryd.prog Tryd.f12 6 keep12 ac12 [.c 2 (some 4)]:=by
  refine ⟨?_,?_,?_,?_,?_⟩ <;> kernel_rfl

/-! impl.Parts -/
def keep13 : Nat → List Nat
  | 0 => [0]
  | 1 => [0,3]
  | 2 => [3,12,13,14]
  | 3 => [3,12,13,14,15]
  | 4 => [3,5,12,13,14]
  | 5 => [3,5,12,13,14,19]
  | 6 => [3,12,13,14]
  | 7 => [3,12,13,14]
  | 8 => [3,6]
  | 9 => [3,24]
  | 10 => [3,6]
  | 11 => [3,6,7]
  | 12 => [3,6,7,31]
  | 13 => [3,6,7]
  | 14 => [3,6,7,42,43,44]
  | 15 => [3,6,7,42,43,44,45]
  | 16 => [3,6,7,9,42,43,44]
  | 17 => [3,6,7,42,43,44]
  | 18 => [3,6,7,42,43,44]
  | 19 => [2]
  | _ => []
def ac13 : AC:=.seq (.region [⟨some 2,none,.own 28 4⟩] [0]) (.seq (.region [⟨some 10,none,.bld [.nil] []⟩,⟨some 11,none,.box (.t 10)⟩,⟨some 3,none,.mv (.t 11)⟩] [0,3]) (.seq (.seq (.region [⟨some 12,none,.mv (.t 0)⟩,⟨some 13,none,.len (.t 12)⟩,⟨some 14,none,.mv (.c (.d true (.int .i64 0)))⟩] [3,12,13,14]) (.block 0 (.loop (.seq (.region [⟨some 15,none,.bin .lss (.t 14) (.t 13)⟩] [3,12,13,14,15]) (.seq (.cond (.t 15) (.skip) (.exit 0)) (.seq (.block 1 (.seq (.region [⟨some 16,none,.ia 4 (.t 12) (.t 14)⟩,⟨some 17,none,.ld (some 4) (.t 16)⟩,⟨some 5,none,.alloc [.d true (.int .i64 0),.d true (.int .i64 0),.d true (.str ⟨#[]⟩),.nil]⟩,⟨none,none,.st 4 (.t 5) (.t 17)⟩] [3,5,12,13,14]) (.seq (.region [⟨some 18,none,.ld (some 4) (.t 5)⟩,⟨some 19,none,.call (.c (.fn 55 [])) [.t 18]⟩] [3,5,12,13,14,19]) (.cond (.t 19) (.region [⟨some 20,none,.mv (.t 3)⟩,⟨some 21,none,.ld (some 4) (.t 5)⟩,⟨some 22,none,.call (.c (.fn 78 [])) [.t 20,.t 21]⟩] [3,12,13,14]) (.skip))))) (.region [⟨some 23,none,.bin .add (.t 14) (.c (.d true (.int .i64 1)))⟩,⟨some 14,none,.mv (.t 23)⟩] [3,12,13,14]))))))) (.seq (.seq (.region [⟨some 6,none,.mv (.c (.d true (.bool true)))⟩] [3,6]) (.block 2 (.loop (.seq (.seq (.region [⟨some 24,none,.mv (.t 6)⟩] [3,24]) (.cond (.t 24) (.skip) (.exit 2))) (.block 3 (.seq (.region [⟨some 6,none,.mv (.c (.d true (.bool false)))⟩] [3,6]) (.seq (.region [⟨some 7,none,.mv (.c (.d true (.int .i64 0)))⟩] [3,6,7]) (.block 4 (.loop (.seq (.seq (.region [⟨some 25,none,.mv (.t 7)⟩,⟨some 26,none,.mv (.t 3)⟩,⟨some 27,none,.ck (.t 26)⟩,⟨some 28,none,.fa 0 (.t 27)⟩,⟨some 29,none,.ld none (.t 28)⟩,⟨some 30,none,.len (.t 29)⟩,⟨some 31,none,.bin .lss (.t 25) (.t 30)⟩] [3,6,7,31]) (.cond (.t 31) (.skip) (.exit 4))) (.seq (.block 5 (.seq (.region [⟨some 34,none,.mv (.t 3)⟩,⟨some 35,none,.mv (.t 3)⟩,⟨some 36,none,.ck (.t 35)⟩,⟨some 37,none,.fa 0 (.t 36)⟩,⟨some 38,none,.ld none (.t 37)⟩,⟨some 39,none,.mv (.t 7)⟩,⟨some 40,none,.ia 4 (.t 38) (.t 39)⟩,⟨some 41,none,.ld (some 4) (.t 40)⟩,⟨some 42,none,.call (.c (.fn 79 [])) [.t 34,.t 41]⟩,⟨some 43,none,.len (.t 42)⟩,⟨some 44,none,.mv (.c (.d true (.int .i64 0)))⟩] [3,6,7,42,43,44]) (.block 6 (.loop (.seq (.region [⟨some 45,none,.bin .lss (.t 44) (.t 43)⟩] [3,6,7,42,43,44,45]) (.seq (.cond (.t 45) (.skip) (.exit 6)) (.seq (.block 7 (.seq (.region [⟨some 46,none,.ia 4 (.t 42) (.t 44)⟩,⟨some 47,none,.ld (some 4) (.t 46)⟩,⟨some 9,none,.alloc [.d true (.int .i64 0),.d true (.int .i64 0),.d true (.str ⟨#[]⟩),.nil]⟩,⟨none,none,.st 4 (.t 9) (.t 47)⟩] [3,6,7,9,42,43,44]) (.region [⟨some 48,none,.mv (.t 3)⟩,⟨some 49,none,.ld (some 4) (.t 9)⟩,⟨some 50,none,.call (.c (.fn 78 [])) [.t 48,.t 49]⟩,⟨some 51,none,.mv (.t 50)⟩,⟨some 52,some (51,false),.mv (.t 6)⟩,⟨some 53,none,.pick (.t 51) (.c (.d true (.bool true))) (.t 52)⟩,⟨some 6,none,.mv (.t 53)⟩] [3,6,7,42,43,44]))) (.region [⟨some 54,none,.bin .add (.t 44) (.c (.d true (.int .i64 1)))⟩,⟨some 44,none,.mv (.t 54)⟩] [3,6,7,42,43,44])))))))) (.region [⟨some 32,none,.mv (.t 7)⟩,⟨some 33,none,.bin .add (.t 32) (.c (.d true (.int .i64 1)))⟩,⟨some 7,none,.mv (.t 33)⟩] [3,6,7])))))))))))) (.seq (.region [⟨some 55,none,.mv (.t 3)⟩,⟨some 56,none,.ck (.t 55)⟩,⟨some 57,none,.fa 0 (.t 56)⟩,⟨some 58,none,.ld none (.t 57)⟩,⟨some 2,none,.mv (.t 58)⟩] [2]) (.ret)))))
theorem ok13 : FnOk Tryd.prog Tryd.f13 59 keep13 ac13 [.t 2]:=by
  refine ⟨?_,?_,?_,?_,?_⟩ <;> kernel_rfl

/-! spec.Parts -/
def keep14 : Nat → List Nat
  | 0 => [0]
  | 1 => [0,3]
  | 2 => [0,3,4]
  | 3 => [0,3,4,13]
  | 4 => [0,3,4]
  | 5 => [0,3,4,20]
  | 6 => [0,3,4]
  | 7 => [3,5]
  | 8 => [3,27]
  | 9 => [3,6]
  | 10 => [3,6,7]
  | 11 => [3,6,7,33]
  | 12 => [3,6,7]
  | 13 => [3,6,7,8]
  | 14 => [3,6,7,8,41]
  | 15 => [3,6,7,8,41,42]
  | 16 => [3,6,7]
  | 17 => [3,6,7,8,41,55]
  | 18 => [3,6,7]
  | 19 => [3,6,7,8,63]
  | 20 => [3,6,7,8,70]
  | 21 => [3,6,7]
  | 22 => [3,5]
  | 23 => [2]
  | 1000016 => [1]
  | _ => []
def ac14 : AC:=.seq (.region [⟨some 2,none,.own 28 4⟩] [0]) (.seq (.region [⟨some 9,none,.bs 28 4 []⟩,⟨some 3,none,.mv (.t 9)⟩] [0,3]) (.seq (.seq (.region [⟨some 4,none,.mv (.c (.d true (.int .i64 0)))⟩] [0,3,4]) (.block 0 (.loop (.seq (.seq (.region [⟨some 10,none,.mv (.t 4)⟩,⟨some 11,none,.mv (.t 0)⟩,⟨some 12,none,.len (.t 11)⟩,⟨some 13,none,.bin .lss (.t 10) (.t 12)⟩] [0,3,4,13]) (.cond (.t 13) (.skip) (.exit 0))) (.seq (.block 1 (.seq (.region [⟨some 16,none,.mv (.t 0)⟩,⟨some 17,none,.mv (.t 4)⟩,⟨some 18,none,.ia 4 (.t 16) (.t 17)⟩,⟨some 19,none,.ld (some 4) (.t 18)⟩,⟨some 20,none,.call (.c (.fn 56 [])) [.t 19]⟩] [0,3,4,20]) (.cond (.t 20) (.region [⟨some 21,none,.mv (.t 3)⟩,⟨some 22,none,.mv (.t 0)⟩,⟨some 23,none,.mv (.t 4)⟩,⟨some 24,none,.ia 4 (.t 22) (.t 23)⟩,⟨some 25,none,.ld (some 4) (.t 24)⟩,⟨some 26,none,.call (.c (.fn 80 [])) [.t 21,.t 25]⟩,⟨some 3,none,.mv (.t 26)⟩] [0,3,4]) (.skip)))) (.region [⟨some 14,none,.mv (.t 4)⟩,⟨some 15,none,.bin .add (.t 14) (.c (.d true (.int .i64 1)))⟩,⟨some 4,none,.mv (.t 15)⟩] [0,3,4])))))) (.seq (.seq (.region [⟨some 5,none,.mv (.c (.d true (.bool true)))⟩] [3,5]) (.block 2 (.loop (.seq (.seq (.region [⟨some 27,none,.mv (.t 5)⟩] [3,27]) (.cond (.t 27) (.skip) (.exit 2))) (.block 3 (.seq (.region [⟨some 28,none,.mv (.t 3)⟩,⟨some 29,none,.len (.t 28)⟩,⟨some 6,none,.mv (.t 29)⟩] [3,6]) (.seq (.seq (.region [⟨some 7,none,.mv (.c (.d true (.int .i64 0)))⟩] [3,6,7]) (.block 4 (.loop (.seq (.seq (.region [⟨some 30,none,.mv (.t 7)⟩,⟨some 31,none,.mv (.t 3)⟩,⟨some 32,none,.len (.t 31)⟩,⟨some 33,none,.bin .lss (.t 30) (.t 32)⟩] [3,6,7,33]) (.cond (.t 33) (.skip) (.exit 4))) (.seq (.block 5 (.seq (.region [⟨some 36,none,.mv (.t 3)⟩,⟨some 37,none,.mv (.t 7)⟩,⟨some 38,none,.ia 4 (.t 36) (.t 37)⟩,⟨some 39,none,.ld (some 4) (.t 38)⟩,⟨some 8,none,.alloc [.d true (.int .i64 0),.d true (.int .i64 0),.d true (.str ⟨#[]⟩),.nil]⟩,⟨none,none,.st 4 (.t 8) (.t 39)⟩] [3,6,7,8]) (.seq (.region [⟨some 40,none,.fa 0 (.t 8)⟩,⟨some 41,none,.ld none (.t 40)⟩] [3,6,7,8,41]) (.block 6 (.seq (.region [⟨some 43,none,.bin .eql (.t 41) (.c (.d true (.int .i64 3)))⟩,⟨some 42,none,.mv (.t 43)⟩] [3,6,7,8,41,42]) (.cond (.t 42) (.tree (.take ⟨some 44,none,.mv (.t 3)⟩ (.take ⟨some 45,none,.fa 3 (.t 8)⟩ (.take ⟨some 46,none,.ld none (.t 45)⟩ (.take ⟨some 47,none,.ia 4 (.t 46) (.c (.d true (.int .i64 0)))⟩ (.take ⟨some 48,none,.ld (some 4) (.t 47)⟩ (.take ⟨some 50,none,.fa 3 (.t 8)⟩ (.take ⟨some 51,none,.ld none (.t 50)⟩ (.take ⟨some 52,none,.ia 4 (.t 51) (.c (.d true (.int .i64 1)))⟩ (.take ⟨some 53,none,.ld (some 4) (.t 52)⟩ (.br (.cons ⟨some 49,none,.call (.c (.fn 80 [])) [.t 44,.t 48]⟩ (.br (.cons ⟨some 54,none,.call (.c (.fn 80 [])) [.t 49,.t 53]⟩ (.take ⟨some 3,none,.mv (.t 54)⟩ (.done)) (.nil))) (.nil)))))))))))) [3,6,7]) (.seq (.region [⟨some 56,none,.bin .eql (.t 41) (.c (.d true (.int .i64 8)))⟩,⟨some 55,none,.mv (.t 56)⟩] [3,6,7,8,41,55]) (.cond (.t 55) (.region [⟨some 57,none,.mv (.t 3)⟩,⟨some 58,none,.fa 3 (.t 8)⟩,⟨some 59,none,.ld none (.t 58)⟩,⟨some 60,none,.ia 4 (.t 59) (.c (.d true (.int .i64 1)))⟩,⟨some 61,none,.ld (some 4) (.t 60)⟩,⟨some 62,none,.call (.c (.fn 80 [])) [.t 57,.t 61]⟩,⟨some 3,none,.mv (.t 62)⟩] [3,6,7]) (.seq (.region [⟨some 64,none,.bin .eql (.t 41) (.c (.d true (.int .i64 7)))⟩,⟨some 63,none,.mv (.t 64)⟩] [3,6,7,8,63]) (.cond (.t 63) (.seq (.region [⟨some 65,none,.mv (.t 3)⟩,⟨some 66,none,.fa 3 (.t 8)⟩,⟨some 67,none,.ld none (.t 66)⟩,⟨some 68,none,.ia 4 (.t 67) (.c (.d true (.int .i64 0)))⟩,⟨some 69,none,.ld (some 4) (.t 68)⟩,⟨some 70,none,.call (.c (.fn 81 [])) [.t 65,.t 69]⟩] [3,6,7,8,70]) (.cond (.t 70) (.region [⟨some 71,none,.mv (.t 3)⟩,⟨some 72,none,.fa 3 (.t 8)⟩,⟨some 73,none,.ld none (.t 72)⟩,⟨some 74,none,.ia 4 (.t 73) (.c (.d true (.int .i64 1)))⟩,⟨some 75,none,.ld (some 4) (.t 74)⟩,⟨some 76,none,.call (.c (.fn 80 [])) [.t 71,.t 75]⟩,⟨some 3,none,.mv (.t 76)⟩] [3,6,7]) (.skip))) (.skip))))))))))) (.region [⟨some 34,none,.mv (.t 7)⟩,⟨some 35,none,.bin .add (.t 34) (.c (.d true (.int .i64 1)))⟩,⟨some 7,none,.mv (.t 35)⟩] [3,6,7])))))) (.region [⟨some 77,none,.mv (.t 3)⟩,⟨some 78,none,.len (.t 77)⟩,⟨some 79,none,.mv (.t 6)⟩,⟨some 80,none,.bin .gtr (.t 78) (.t 79)⟩,⟨some 5,none,.mv (.t 80)⟩] [3,5])))))))) (.seq (.region [⟨some 81,none,.mv (.t 3)⟩,⟨some 2,none,.mv (.t 81)⟩] [2]) (.ret)))))
theorem ok14 : FnOk Tryd.prog Tryd.f14 82 keep14 ac14 [.t 2]:=by
  refine ⟨?_,?_,?_,?_,?_⟩ <;> kernel_rfl

/-! impl.Agree -/
def keep15 : Nat → List Nat
  | 0 => [2,3,4]
  | 1 => [2,3,4,16]
  | 2 => [4,5]
  | 3 => [4,6,7]
  | 4 => [4,6,7,25]
  | 5 => [4,6,7]
  | 6 => [4,8]
  | 7 => [4,5]
  | 1000003 => [1]
  | 1000007 => [1]
  | _ => []
def ac15 : AC:=.seq (.region [⟨some 2,none,.box (.t 0)⟩,⟨some 3,none,.box (.t 1)⟩,⟨some 4,none,.alloc [.d true (.int .i64 0),.d true (.int .i64 0),.d true (.str ⟨#[]⟩),.nil]⟩,⟨some 5,none,.mv (.c (.d true (.bool false)))⟩] [2,3,4]) (.seq (.seq (.region [⟨some 9,none,.fa 0 (.t 3)⟩,⟨some 10,none,.ld none (.t 9)⟩,⟨some 11,none,.bin .neq (.t 10) (.c (.d true (.int .i64 4)))⟩,⟨some 12,none,.mv (.t 11)⟩,⟨some 13,some (12,false),.ld (some 4) (.t 3)⟩,⟨some 14,some (12,false),.call (.c (.fn 55 [])) [.t 13]⟩,⟨some 15,some (12,false),.not (.t 14)⟩,⟨some 16,none,.pick (.t 12) (.c (.d true (.bool true))) (.t 15)⟩] [2,3,4,16]) (.cond (.t 16) (.seq (.region [⟨some 17,none,.bld [.d true (.int .i64 0),.d true (.int .i64 0),.d true (.str ⟨#[]⟩),.nil] []⟩,⟨none,none,.st 4 (.t 4) (.t 17)⟩,⟨some 5,none,.mv (.c (.d true (.bool false)))⟩] [4,5]) (.ret)) (.skip))) (.seq (.tree (.take ⟨some 18,none,.ld (some 4) (.t 2)⟩ (.take ⟨some 19,none,.fa 3 (.t 3)⟩ (.take ⟨some 20,none,.ld none (.t 19)⟩ (.take ⟨some 21,none,.ia 4 (.t 20) (.c (.d true (.int .i64 0)))⟩ (.take ⟨some 22,none,.ld (some 4) (.t 21)⟩ (.br (.cons ⟨some 6,none,.alloc [.d true (.int .i64 0),.d true (.int .i64 0),.d true (.str ⟨#[]⟩),.nil]⟩ (.br (.cons ⟨some 7,none,.alloc [.d true (.int .i64 0),.d true (.int .i64 0),.d true (.str ⟨#[]⟩),.nil]⟩ (.br (.cons ⟨none,none,.st 4 (.t 6) (.t 18)⟩ (.br (.cons ⟨none,none,.st 4 (.t 7) (.t 22)⟩ (.done) (.nil))) (.nil))) (.nil))) (.cons ⟨some 7,none,.alloc [.d true (.int .i64 0),.d true (.int .i64 0),.d true (.str ⟨#[]⟩),.nil]⟩ (.br (.cons ⟨some 6,none,.alloc [.d true (.int .i64 0),.d true (.int .i64 0),.d true (.str ⟨#[]⟩),.nil]⟩ (.br (.cons ⟨none,none,.st 4 (.t 6) (.t 18)⟩ (.br (.cons ⟨none,none,.st 4 (.t 7) (.t 22)⟩ (.done) (.nil))) (.nil))) (.nil))) (.nil))))))))) [4,6,7]) (.seq (.seq (.region [⟨some 23,none,.ld (some 4) (.t 7)⟩,⟨some 24,none,.ld (some 4) (.t 6)⟩,⟨some 25,none,.call (.c (.fn 52 [])) [.t 23,.t 24]⟩] [4,6,7,25]) (.cond (.t 25) (.region [⟨some 26,none,.ld (some 4) (.t 7)⟩,⟨some 27,none,.ld (some 4) (.t 6)⟩,⟨none,none,.st 4 (.t 6) (.t 26)⟩,⟨none,none,.st 4 (.t 7) (.t 27)⟩] [4,6,7]) (.skip))) (.seq (.region [⟨some 28,none,.ld (some 4) (.t 6)⟩,⟨some 29,none,.ld (some 4) (.t 7)⟩,⟨some 30,none,.bs 28 4 [.t 28,.t 29]⟩,⟨some 31,none,.bld [.d true (.int .i64 0),.d true (.int .i64 0),.d true (.str ⟨#[]⟩),.nil] [(0,1,.c (.d true (.int .i64 5))),(3,1,.t 30)]⟩,⟨some 32,none,.call (.c (.fn 77 [])) [.t 31]⟩,⟨some 8,none,.alloc [.d true (.int .i64 0),.d true (.int .i64 0),.d true (.str ⟨#[]⟩),.nil]⟩,⟨none,none,.st 4 (.t 8) (.t 32)⟩] [4,8]) (.seq (.tree (.take ⟨some 33,none,.ld (some 4) (.t 8)⟩ (.take ⟨some 34,none,.fa 0 (.t 8)⟩ (.take ⟨some 35,none,.ld none (.t 34)⟩ (.take ⟨some 36,none,.bin .eql (.t 35) (.c (.d true (.int .i64 5)))⟩ (.br (.cons ⟨none,none,.st 4 (.t 4) (.t 33)⟩ (.take ⟨some 5,none,.mv (.t 36)⟩ (.done)) (.nil))))))) [4,5]) (.ret))))))
theorem ok15 : FnOk Tryd.prog Tryd.f15 37 keep15 ac15 [.c 4 (some 4),.t 5]:=by
  refine ⟨?_,?_,?_,?_,?_⟩ <;> kernel_rfl

/-! impl.Pub -/
def keep16 : Nat → List Nat
  | 0 => [1,2]
  | 1 => [2]
  | _ => []
def ac16 : AC:=.seq (.region [⟨some 1,none,.box (.t 0)⟩,⟨some 2,none,.alloc [.d true (.int .i64 0),.d true (.int .i64 0),.d true (.str ⟨#[]⟩),.nil]⟩] [1,2]) (.seq (.region [⟨some 3,none,.ld (some 4) (.t 1)⟩,⟨some 4,none,.bs 28 4 [.t 3]⟩,⟨some 5,none,.bld [.d true (.int .i64 0),.d true (.int .i64 0),.d true (.str ⟨#[]⟩),.nil] [(0,1,.c (.d true (.int .i64 4))),(3,1,.t 4)]⟩,⟨some 6,none,.call (.c (.fn 77 [])) [.t 5]⟩,⟨none,none,.st 4 (.t 2) (.t 6)⟩] [2]) (.ret))
theorem ok16 : FnOk Tryd.prog Tryd.f16 7 keep16 ac16 [.c 2 (some 4)]:=by
  refine ⟨?_,?_,?_,?_,?_⟩ <;> kernel_rfl

/-! impl.Seal -/
def keep17 : Nat → List Nat
  | 0 => [1,3,5,6]
  | 1 => [6]
  | 1000001 => [1]
  | _ => []
def ac17 : AC:=.seq (.region [⟨some 3,none,.box (.t 0)⟩,⟨some 5,none,.box (.t 2)⟩,⟨some 6,none,.alloc [.d true (.int .i64 0),.d true (.int .i64 0),.d true (.str ⟨#[]⟩),.nil]⟩] [1,3,5,6]) (.seq (.tree (.take ⟨some 7,none,.ld (some 4) (.t 3)⟩ (.take ⟨some 8,none,.mv (.t 1)⟩ (.take ⟨some 10,none,.ld (some 4) (.t 5)⟩ (.br (.cons ⟨some 9,none,.call (.c (.fn 83 [])) [.t 8]⟩ (.br (.cons ⟨some 11,none,.call (.c (.fn 82 [])) [.t 9,.t 10]⟩ (.br (.cons ⟨some 12,none,.bs 28 4 [.t 7,.t 11]⟩ (.take ⟨some 13,none,.bld [.d true (.int .i64 0),.d true (.int .i64 0),.d true (.str ⟨#[]⟩),.nil] [(0,1,.c (.d true (.int .i64 7))),(3,1,.t 12)]⟩ (.br (.cons ⟨some 14,none,.call (.c (.fn 77 [])) [.t 13]⟩ (.br (.cons ⟨none,none,.st 4 (.t 6) (.t 14)⟩ (.done) (.nil))) (.nil)))) (.nil))) (.nil))) (.nil)))))) [6]) (.ret))
theorem ok17 : FnOk Tryd.prog Tryd.f17 15 keep17 ac17 [.c 6 (some 4)]:=by
  refine ⟨?_,?_,?_,?_,?_⟩ <;> kernel_rfl

/-! impl.KeyOf -/
def keep18 : Nat → List Nat
  | 0 => [1,2,4]
  | 1 => [4]
  | 1000001 => [1]
  | _ => []
def ac18 : AC:=.seq (.region [⟨some 2,none,.box (.t 0)⟩,⟨some 4,none,.alloc [.d true (.int .i64 0),.d true (.int .i64 0),.d true (.str ⟨#[]⟩),.nil]⟩] [1,2,4]) (.seq (.tree (.take ⟨some 5,none,.ld (some 4) (.t 2)⟩ (.take ⟨some 6,none,.mv (.t 1)⟩ (.br (.cons ⟨some 7,none,.call (.c (.fn 83 [])) [.t 6]⟩ (.br (.cons ⟨some 8,none,.call (.c (.fn 82 [])) [.t 5,.t 7]⟩ (.br (.cons ⟨some 9,none,.call (.c (.fn 84 [])) [.t 8]⟩ (.br (.cons ⟨none,none,.st 4 (.t 4) (.t 9)⟩ (.done) (.nil))) (.nil))) (.nil))) (.nil))))) [4]) (.ret))
theorem ok18 : FnOk Tryd.prog Tryd.f18 10 keep18 ac18 [.c 4 (some 4)]:=by
  refine ⟨?_,?_,?_,?_,?_⟩ <;> kernel_rfl

/-! impl.Can -/
def keep19 : Nat → List Nat
  | 0 => [0,3]
  | 1 => [4]
  | 1000001 => [1]
  | _ => []
def ac19 : AC:=.seq (.region [⟨some 3,none,.box (.t 1)⟩,⟨some 4,none,.mv (.c (.d true (.bool false)))⟩] [0,3]) (.seq (.tree (.take ⟨some 5,none,.mv (.t 0)⟩ (.take ⟨some 7,none,.ld (some 4) (.t 3)⟩ (.br (.cons ⟨some 6,none,.call (.c (.fn 13 [])) [.t 5]⟩ (.br (.cons ⟨some 8,none,.call (.c (.fn 85 [])) [.t 6,.t 7]⟩ (.take ⟨some 4,none,.mv (.t 8)⟩ (.done)) (.nil))) (.nil))))) [4]) (.ret))
theorem ok19 : FnOk Tryd.prog Tryd.f19 9 keep19 ac19 [.t 4]:=by
  refine ⟨?_,?_,?_,?_,?_⟩ <;> kernel_rfl

/-! spec.DrawFits -/
/-! spec.DrawHostOk -/
/-! spec.DrawPatternOk -/
/-! spec.DrawLabels -/
/-! impl.Fits -/
/-! spec.Fits -/
/-! impl.HostOk -/
/-! spec.HostOk -/
/-! impl.PatternOk -/
/-! spec.PatternOk -/
/-! laws.sameTexts -/
/-! impl.Labels -/
/-! spec.Labels -/
/-! spec.DrawSeal -/
/-! spec.DrawOpen -/
/-! impl.Open -/
/-! spec.Open -/
/-! spec.DrawSigned -/
/-! impl.Signed -/
/-! spec.Signed -/
/-! spec.DrawSign -/
/-! spec.DrawKeyOf -/
/-! impl.Same -/
def keep42 : Nat → List Nat
  | 0 => [2,3]
  | 1 => [4]
  | _ => []
def ac42 : AC:=.seq (.region [⟨some 2,none,.box (.t 0)⟩,⟨some 3,none,.box (.t 1)⟩,⟨some 4,none,.mv (.c (.d true (.bool false)))⟩] [2,3]) (.seq (.region [⟨some 5,none,.fa 0 (.t 2)⟩,⟨some 6,none,.ld none (.t 5)⟩,⟨some 7,none,.fa 0 (.t 3)⟩,⟨some 8,none,.ld none (.t 7)⟩,⟨some 9,none,.bin .eql (.t 6) (.t 8)⟩,⟨some 10,none,.mv (.t 9)⟩,⟨some 11,some (10,true),.fa 1 (.t 2)⟩,⟨some 12,some (10,true),.ld none (.t 11)⟩,⟨some 13,some (10,true),.fa 1 (.t 3)⟩,⟨some 14,some (10,true),.ld none (.t 13)⟩,⟨some 15,some (10,true),.bin .eql (.t 12) (.t 14)⟩,⟨some 16,none,.pick (.t 10) (.t 15) (.c (.d true (.bool false)))⟩,⟨some 17,none,.mv (.t 16)⟩,⟨some 18,some (17,true),.fa 2 (.t 2)⟩,⟨some 19,some (17,true),.ld none (.t 18)⟩,⟨some 20,some (17,true),.fa 2 (.t 3)⟩,⟨some 21,some (17,true),.ld none (.t 20)⟩,⟨some 22,some (17,true),.bin .eql (.t 19) (.t 21)⟩,⟨some 23,none,.pick (.t 17) (.t 22) (.c (.d true (.bool false)))⟩,⟨some 24,none,.mv (.t 23)⟩,⟨some 25,some (24,true),.fa 3 (.t 2)⟩,⟨some 26,some (24,true),.ld none (.t 25)⟩,⟨some 27,some (24,true),.fa 3 (.t 3)⟩,⟨some 28,some (24,true),.ld none (.t 27)⟩,⟨some 29,some (24,true),.call (.c (.fn 105 [])) [.t 26,.t 28,.c (.fn 42 [])]⟩,⟨some 30,none,.pick (.t 24) (.t 29) (.c (.d true (.bool false)))⟩,⟨some 4,none,.mv (.t 30)⟩] [4]) (.ret))
theorem ok42 : FnOk Tryd.prog Tryd.f42 31 keep42 ac42 [.t 4]:=by
  refine ⟨?_,?_,?_,?_,?_⟩ <;> kernel_rfl

/-! spec.Seal -/
def keep43 : Nat → List Nat
  | 0 => [1,3,5,6]
  | 1 => [6]
  | 1000001 => [1]
  | _ => []
def ac43 : AC:=.seq (.region [⟨some 3,none,.box (.t 0)⟩,⟨some 5,none,.box (.t 2)⟩,⟨some 6,none,.alloc [.d true (.int .i64 0),.d true (.int .i64 0),.d true (.str ⟨#[]⟩),.nil]⟩] [1,3,5,6]) (.seq (.tree (.take ⟨some 7,none,.ld (some 4) (.t 3)⟩ (.take ⟨some 8,none,.mv (.t 1)⟩ (.take ⟨some 10,none,.ld (some 4) (.t 5)⟩ (.br (.cons ⟨some 9,none,.call (.c (.fn 100 [])) [.t 8]⟩ (.br (.cons ⟨some 11,none,.call (.c (.fn 107 [])) [.t 9,.t 10]⟩ (.br (.cons ⟨some 12,none,.call (.c (.fn 106 [])) [.c (.d true (.int .i64 7)),.t 7,.t 11]⟩ (.br (.cons ⟨none,none,.st 4 (.t 6) (.t 12)⟩ (.done) (.nil))) (.nil))) (.nil))) (.nil)))))) [6]) (.ret))
theorem ok43 : FnOk Tryd.prog Tryd.f43 13 keep43 ac43 [.c 6 (some 4)]:=by
  refine ⟨?_,?_,?_,?_,?_⟩ <;> kernel_rfl

/-! impl.Sign -/
/-! spec.Sign -/
def keep45 : Nat → List Nat
  | 0 => [2,3,4]
  | 1 => [4]
  | _ => []
def ac45 : AC:=.seq (.region [⟨some 2,none,.box (.t 0)⟩,⟨some 3,none,.box (.t 1)⟩,⟨some 4,none,.alloc [.d true (.int .i64 0),.d true (.int .i64 0),.d true (.str ⟨#[]⟩),.nil]⟩] [2,3,4]) (.seq (.region [⟨some 5,none,.ld (some 4) (.t 2)⟩,⟨some 6,none,.ld (some 4) (.t 3)⟩,⟨some 7,none,.call (.c (.fn 106 [])) [.c (.d true (.int .i64 8)),.t 5,.t 6]⟩,⟨none,none,.st 4 (.t 4) (.t 7)⟩] [4]) (.ret))
theorem ok45 : FnOk Tryd.prog Tryd.f45 8 keep45 ac45 [.c 4 (some 4)]:=by
  refine ⟨?_,?_,?_,?_,?_⟩ <;> kernel_rfl

/-! spec.KeyOf -/
/-! spec.DrawBefore -/
/-! spec.DrawSame -/
/-! spec.DrawTermOk -/
/-! spec.DrawTermSize -/
/-! spec.DrawTermText -/
/-! impl.Before -/
def keep52 : Nat → List Nat
  | 0 => [2,3]
  | 1 => [2,3,7]
  | 2 => [4]
  | 3 => [2,3,18]
  | 4 => [4]
  | 5 => [2,3,29]
  | 6 => [4]
  | 7 => [2,3,40]
  | 8 => [4]
  | 9 => [3,56,57,58]
  | 10 => [3,56,57,58,59]
  | 11 => [3,5,6,56,57,58]
  | 12 => [3,5,6,56,57,58,70]
  | 13 => [4]
  | 14 => [3,56,57,58]
  | 15 => [4]
  | _ => []
def ac52 : AC:=.seq (.region [⟨some 2,none,.box (.t 0)⟩,⟨some 3,none,.box (.t 1)⟩,⟨some 4,none,.mv (.c (.d true (.bool false)))⟩] [2,3]) (.seq (.block 0 (.seq (.region [⟨some 8,none,.fa 0 (.t 2)⟩,⟨some 9,none,.ld none (.t 8)⟩,⟨some 10,none,.fa 0 (.t 3)⟩,⟨some 11,none,.ld none (.t 10)⟩,⟨some 12,none,.bin .neq (.t 9) (.t 11)⟩,⟨some 7,none,.mv (.t 12)⟩] [2,3,7]) (.cond (.t 7) (.seq (.region [⟨some 13,none,.fa 0 (.t 2)⟩,⟨some 14,none,.ld none (.t 13)⟩,⟨some 15,none,.fa 0 (.t 3)⟩,⟨some 16,none,.ld none (.t 15)⟩,⟨some 17,none,.bin .lss (.t 14) (.t 16)⟩,⟨some 4,none,.mv (.t 17)⟩] [4]) (.ret)) (.seq (.region [⟨some 19,none,.fa 1 (.t 2)⟩,⟨some 20,none,.ld none (.t 19)⟩,⟨some 21,none,.fa 1 (.t 3)⟩,⟨some 22,none,.ld none (.t 21)⟩,⟨some 23,none,.bin .neq (.t 20) (.t 22)⟩,⟨some 18,none,.mv (.t 23)⟩] [2,3,18]) (.cond (.t 18) (.seq (.region [⟨some 24,none,.fa 1 (.t 2)⟩,⟨some 25,none,.ld none (.t 24)⟩,⟨some 26,none,.fa 1 (.t 3)⟩,⟨some 27,none,.ld none (.t 26)⟩,⟨some 28,none,.bin .lss (.t 25) (.t 27)⟩,⟨some 4,none,.mv (.t 28)⟩] [4]) (.ret)) (.seq (.region [⟨some 30,none,.fa 2 (.t 2)⟩,⟨some 31,none,.ld none (.t 30)⟩,⟨some 32,none,.fa 2 (.t 3)⟩,⟨some 33,none,.ld none (.t 32)⟩,⟨some 34,none,.bin .neq (.t 31) (.t 33)⟩,⟨some 29,none,.mv (.t 34)⟩] [2,3,29]) (.cond (.t 29) (.seq (.region [⟨some 35,none,.fa 2 (.t 2)⟩,⟨some 36,none,.ld none (.t 35)⟩,⟨some 37,none,.fa 2 (.t 3)⟩,⟨some 38,none,.ld none (.t 37)⟩,⟨some 39,none,.bin .lss (.t 36) (.t 38)⟩,⟨some 4,none,.mv (.t 39)⟩] [4]) (.ret)) (.seq (.region [⟨some 41,none,.fa 3 (.t 2)⟩,⟨some 42,none,.ld none (.t 41)⟩,⟨some 43,none,.len (.t 42)⟩,⟨some 44,none,.fa 3 (.t 3)⟩,⟨some 45,none,.ld none (.t 44)⟩,⟨some 46,none,.len (.t 45)⟩,⟨some 47,none,.bin .neq (.t 43) (.t 46)⟩,⟨some 40,none,.mv (.t 47)⟩] [2,3,40]) (.cond (.t 40) (.seq (.region [⟨some 48,none,.fa 3 (.t 2)⟩,⟨some 49,none,.ld none (.t 48)⟩,⟨some 50,none,.len (.t 49)⟩,⟨some 51,none,.fa 3 (.t 3)⟩,⟨some 52,none,.ld none (.t 51)⟩,⟨some 53,none,.len (.t 52)⟩,⟨some 54,none,.bin .lss (.t 50) (.t 53)⟩,⟨some 4,none,.mv (.t 54)⟩] [4]) (.ret)) (.skip)))))))))) (.seq (.seq (.region [⟨some 55,none,.fa 3 (.t 2)⟩,⟨some 56,none,.ld none (.t 55)⟩,⟨some 57,none,.len (.t 56)⟩,⟨some 58,none,.mv (.c (.d true (.int .i64 0)))⟩] [3,56,57,58]) (.block 1 (.loop (.seq (.region [⟨some 59,none,.bin .lss (.t 58) (.t 57)⟩] [3,56,57,58,59]) (.seq (.cond (.t 59) (.skip) (.exit 1)) (.seq (.block 2 (.seq (.region [⟨some 60,none,.mv (.t 58)⟩,⟨some 61,none,.ia 4 (.t 56) (.t 58)⟩,⟨some 62,none,.ld (some 4) (.t 61)⟩,⟨some 6,none,.alloc [.d true (.int .i64 0),.d true (.int .i64 0),.d true (.str ⟨#[]⟩),.nil]⟩,⟨some 5,none,.mv (.t 60)⟩,⟨none,none,.st 4 (.t 6) (.t 62)⟩] [3,5,6,56,57,58]) (.seq (.draw [⟨some 63,none,.ld (some 4) (.t 6)⟩,⟨some 64,none,.fa 3 (.t 3)⟩,⟨some 65,none,.ld none (.t 64)⟩,⟨some 66,none,.mv (.t 5)⟩,⟨some 67,none,.ia 4 (.t 65) (.t 66)⟩,⟨some 68,none,.ld (some 4) (.t 67)⟩,⟨some 69,none,.call (.c (.fn 42 [])) [.t 63,.t 68]⟩,⟨some 70,none,.not (.t 69)⟩] [3,5,6,56,57,58,70]) (.cond (.t 70) (.seq (.draw [⟨some 71,none,.ld (some 4) (.t 6)⟩,⟨some 72,none,.fa 3 (.t 3)⟩,⟨some 73,none,.ld none (.t 72)⟩,⟨some 74,none,.mv (.t 5)⟩,⟨some 75,none,.ia 4 (.t 73) (.t 74)⟩,⟨some 76,none,.ld (some 4) (.t 75)⟩,⟨some 77,none,.call (.c (.fn 52 [])) [.t 71,.t 76]⟩,⟨some 4,none,.mv (.t 77)⟩] [4]) (.ret)) (.skip))))) (.region [⟨some 78,none,.bin .add (.t 58) (.c (.d true (.int .i64 1)))⟩,⟨some 58,none,.mv (.t 78)⟩] [3,56,57,58]))))))) (.seq (.region [⟨some 4,none,.mv (.c (.d true (.bool false)))⟩] [4]) (.ret))))
theorem ok52 : FnOk Tryd.prog Tryd.f52 79 keep52 ac52 [.t 4]:=by
  refine ⟨?_,?_,?_,?_,?_⟩ <;> kernel_rfl

/-! spec.Before -/
def keep53 : Nat → List Nat
  | 0 => [2,3]
  | 1 => [2,3,6]
  | 2 => [4]
  | 3 => [2,3,17]
  | 4 => [4]
  | 5 => [2,3,28]
  | 6 => [4]
  | 7 => [2,3,39]
  | 8 => [4]
  | 9 => [2,3,5]
  | 10 => [2,3,5,58]
  | 11 => [2,3,5]
  | 12 => [2,3,5,72]
  | 13 => [4]
  | 14 => [4]
  | _ => []
def ac53 : AC:=.seq (.region [⟨some 2,none,.box (.t 0)⟩,⟨some 3,none,.box (.t 1)⟩,⟨some 4,none,.mv (.c (.d true (.bool false)))⟩] [2,3]) (.seq (.block 0 (.seq (.region [⟨some 7,none,.fa 0 (.t 2)⟩,⟨some 8,none,.ld none (.t 7)⟩,⟨some 9,none,.fa 0 (.t 3)⟩,⟨some 10,none,.ld none (.t 9)⟩,⟨some 11,none,.bin .neq (.t 8) (.t 10)⟩,⟨some 6,none,.mv (.t 11)⟩] [2,3,6]) (.cond (.t 6) (.seq (.region [⟨some 12,none,.fa 0 (.t 2)⟩,⟨some 13,none,.ld none (.t 12)⟩,⟨some 14,none,.fa 0 (.t 3)⟩,⟨some 15,none,.ld none (.t 14)⟩,⟨some 16,none,.bin .lss (.t 13) (.t 15)⟩,⟨some 4,none,.mv (.t 16)⟩] [4]) (.ret)) (.seq (.region [⟨some 18,none,.fa 1 (.t 2)⟩,⟨some 19,none,.ld none (.t 18)⟩,⟨some 20,none,.fa 1 (.t 3)⟩,⟨some 21,none,.ld none (.t 20)⟩,⟨some 22,none,.bin .neq (.t 19) (.t 21)⟩,⟨some 17,none,.mv (.t 22)⟩] [2,3,17]) (.cond (.t 17) (.seq (.region [⟨some 23,none,.fa 1 (.t 2)⟩,⟨some 24,none,.ld none (.t 23)⟩,⟨some 25,none,.fa 1 (.t 3)⟩,⟨some 26,none,.ld none (.t 25)⟩,⟨some 27,none,.bin .lss (.t 24) (.t 26)⟩,⟨some 4,none,.mv (.t 27)⟩] [4]) (.ret)) (.seq (.region [⟨some 29,none,.fa 2 (.t 2)⟩,⟨some 30,none,.ld none (.t 29)⟩,⟨some 31,none,.fa 2 (.t 3)⟩,⟨some 32,none,.ld none (.t 31)⟩,⟨some 33,none,.bin .neq (.t 30) (.t 32)⟩,⟨some 28,none,.mv (.t 33)⟩] [2,3,28]) (.cond (.t 28) (.seq (.region [⟨some 34,none,.fa 2 (.t 2)⟩,⟨some 35,none,.ld none (.t 34)⟩,⟨some 36,none,.fa 2 (.t 3)⟩,⟨some 37,none,.ld none (.t 36)⟩,⟨some 38,none,.bin .lss (.t 35) (.t 37)⟩,⟨some 4,none,.mv (.t 38)⟩] [4]) (.ret)) (.seq (.region [⟨some 40,none,.fa 3 (.t 2)⟩,⟨some 41,none,.ld none (.t 40)⟩,⟨some 42,none,.len (.t 41)⟩,⟨some 43,none,.fa 3 (.t 3)⟩,⟨some 44,none,.ld none (.t 43)⟩,⟨some 45,none,.len (.t 44)⟩,⟨some 46,none,.bin .neq (.t 42) (.t 45)⟩,⟨some 39,none,.mv (.t 46)⟩] [2,3,39]) (.cond (.t 39) (.seq (.region [⟨some 47,none,.fa 3 (.t 2)⟩,⟨some 48,none,.ld none (.t 47)⟩,⟨some 49,none,.len (.t 48)⟩,⟨some 50,none,.fa 3 (.t 3)⟩,⟨some 51,none,.ld none (.t 50)⟩,⟨some 52,none,.len (.t 51)⟩,⟨some 53,none,.bin .lss (.t 49) (.t 52)⟩,⟨some 4,none,.mv (.t 53)⟩] [4]) (.ret)) (.skip)))))))))) (.seq (.seq (.region [⟨some 5,none,.mv (.c (.d true (.int .i64 0)))⟩] [2,3,5]) (.block 1 (.loop (.seq (.seq (.region [⟨some 54,none,.mv (.t 5)⟩,⟨some 55,none,.fa 3 (.t 2)⟩,⟨some 56,none,.ld none (.t 55)⟩,⟨some 57,none,.len (.t 56)⟩,⟨some 58,none,.bin .lss (.t 54) (.t 57)⟩] [2,3,5,58]) (.cond (.t 58) (.skip) (.exit 1))) (.seq (.block 2 (.seq (.draw [⟨some 61,none,.fa 3 (.t 2)⟩,⟨some 62,none,.ld none (.t 61)⟩,⟨some 63,none,.mv (.t 5)⟩,⟨some 64,none,.ia 4 (.t 62) (.t 63)⟩,⟨some 65,none,.ld (some 4) (.t 64)⟩,⟨some 66,none,.fa 3 (.t 3)⟩,⟨some 67,none,.ld none (.t 66)⟩,⟨some 68,none,.mv (.t 5)⟩,⟨some 69,none,.ia 4 (.t 67) (.t 68)⟩,⟨some 70,none,.ld (some 4) (.t 69)⟩,⟨some 71,none,.call (.c (.fn 54 [])) [.t 65,.t 70]⟩,⟨some 72,none,.not (.t 71)⟩] [2,3,5,72]) (.cond (.t 72) (.seq (.draw [⟨some 73,none,.fa 3 (.t 2)⟩,⟨some 74,none,.ld none (.t 73)⟩,⟨some 75,none,.mv (.t 5)⟩,⟨some 76,none,.ia 4 (.t 74) (.t 75)⟩,⟨some 77,none,.ld (some 4) (.t 76)⟩,⟨some 78,none,.fa 3 (.t 3)⟩,⟨some 79,none,.ld none (.t 78)⟩,⟨some 80,none,.mv (.t 5)⟩,⟨some 81,none,.ia 4 (.t 79) (.t 80)⟩,⟨some 82,none,.ld (some 4) (.t 81)⟩,⟨some 83,none,.call (.c (.fn 53 [])) [.t 77,.t 82]⟩,⟨some 4,none,.mv (.t 83)⟩] [4]) (.ret)) (.skip)))) (.region [⟨some 59,none,.mv (.t 5)⟩,⟨some 60,none,.bin .add (.t 59) (.c (.d true (.int .i64 1)))⟩,⟨some 5,none,.mv (.t 60)⟩] [2,3,5])))))) (.seq (.region [⟨some 4,none,.mv (.c (.d true (.bool false)))⟩] [4]) (.ret))))
theorem ok53 : FnOk Tryd.prog Tryd.f53 84 keep53 ac53 [.t 4]:=by
  refine ⟨?_,?_,?_,?_,?_⟩ <;> kernel_rfl

/-! spec.Same -/
def keep54 : Nat → List Nat
  | 0 => [2,3]
  | 1 => [2,3,33]
  | 2 => [4]
  | 3 => [2,3,5]
  | 4 => [2,3,5,38]
  | 5 => [2,3,5]
  | 6 => [2,3,5,52]
  | 7 => [4]
  | 8 => [4]
  | _ => []
def ac54 : AC:=.seq (.region [⟨some 2,none,.box (.t 0)⟩,⟨some 3,none,.box (.t 1)⟩,⟨some 4,none,.mv (.c (.d true (.bool false)))⟩] [2,3]) (.seq (.seq (.region [⟨some 6,none,.fa 0 (.t 2)⟩,⟨some 7,none,.ld none (.t 6)⟩,⟨some 8,none,.fa 0 (.t 3)⟩,⟨some 9,none,.ld none (.t 8)⟩,⟨some 10,none,.bin .neq (.t 7) (.t 9)⟩,⟨some 11,none,.mv (.t 10)⟩,⟨some 12,some (11,false),.fa 1 (.t 2)⟩,⟨some 13,some (11,false),.ld none (.t 12)⟩,⟨some 14,some (11,false),.fa 1 (.t 3)⟩,⟨some 15,some (11,false),.ld none (.t 14)⟩,⟨some 16,some (11,false),.bin .neq (.t 13) (.t 15)⟩,⟨some 17,none,.pick (.t 11) (.c (.d true (.bool true))) (.t 16)⟩,⟨some 18,none,.mv (.t 17)⟩,⟨some 19,some (18,false),.fa 2 (.t 2)⟩,⟨some 20,some (18,false),.ld none (.t 19)⟩,⟨some 21,some (18,false),.fa 2 (.t 3)⟩,⟨some 22,some (18,false),.ld none (.t 21)⟩,⟨some 23,some (18,false),.bin .neq (.t 20) (.t 22)⟩,⟨some 24,none,.pick (.t 18) (.c (.d true (.bool true))) (.t 23)⟩,⟨some 25,none,.mv (.t 24)⟩,⟨some 26,some (25,false),.fa 3 (.t 2)⟩,⟨some 27,some (25,false),.ld none (.t 26)⟩,⟨some 28,some (25,false),.len (.t 27)⟩,⟨some 29,some (25,false),.fa 3 (.t 3)⟩,⟨some 30,some (25,false),.ld none (.t 29)⟩,⟨some 31,some (25,false),.len (.t 30)⟩,⟨some 32,some (25,false),.bin .neq (.t 28) (.t 31)⟩,⟨some 33,none,.pick (.t 25) (.c (.d true (.bool true))) (.t 32)⟩] [2,3,33]) (.cond (.t 33) (.seq (.region [⟨some 4,none,.mv (.c (.d true (.bool false)))⟩] [4]) (.ret)) (.skip))) (.seq (.seq (.region [⟨some 5,none,.mv (.c (.d true (.int .i64 0)))⟩] [2,3,5]) (.block 0 (.loop (.seq (.seq (.region [⟨some 34,none,.mv (.t 5)⟩,⟨some 35,none,.fa 3 (.t 2)⟩,⟨some 36,none,.ld none (.t 35)⟩,⟨some 37,none,.len (.t 36)⟩,⟨some 38,none,.bin .lss (.t 34) (.t 37)⟩] [2,3,5,38]) (.cond (.t 38) (.skip) (.exit 0))) (.seq (.block 1 (.seq (.draw [⟨some 41,none,.fa 3 (.t 2)⟩,⟨some 42,none,.ld none (.t 41)⟩,⟨some 43,none,.mv (.t 5)⟩,⟨some 44,none,.ia 4 (.t 42) (.t 43)⟩,⟨some 45,none,.ld (some 4) (.t 44)⟩,⟨some 46,none,.fa 3 (.t 3)⟩,⟨some 47,none,.ld none (.t 46)⟩,⟨some 48,none,.mv (.t 5)⟩,⟨some 49,none,.ia 4 (.t 47) (.t 48)⟩,⟨some 50,none,.ld (some 4) (.t 49)⟩,⟨some 51,none,.call (.c (.fn 54 [])) [.t 45,.t 50]⟩,⟨some 52,none,.not (.t 51)⟩] [2,3,5,52]) (.cond (.t 52) (.seq (.region [⟨some 4,none,.mv (.c (.d true (.bool false)))⟩] [4]) (.ret)) (.skip)))) (.region [⟨some 39,none,.mv (.t 5)⟩,⟨some 40,none,.bin .add (.t 39) (.c (.d true (.int .i64 1)))⟩,⟨some 5,none,.mv (.t 40)⟩] [2,3,5])))))) (.seq (.region [⟨some 4,none,.mv (.c (.d true (.bool true)))⟩] [4]) (.ret))))
theorem ok54 : FnOk Tryd.prog Tryd.f54 53 keep54 ac54 [.t 4]:=by
  refine ⟨?_,?_,?_,?_,?_⟩ <;> kernel_rfl

/-! impl.TermOk -/
def keep55 : Nat → List Nat
  | 0 => [1]
  | 1 => [2]
  | _ => []
def ac55 : AC:=.seq (.region [⟨some 1,none,.box (.t 0)⟩,⟨some 2,none,.mv (.c (.d true (.bool false)))⟩] [1]) (.seq (.region [⟨some 3,none,.ld (some 4) (.t 1)⟩,⟨some 4,none,.call (.c (.fn 57 [])) [.t 3]⟩,⟨some 5,none,.bin .leq (.t 4) (.c (.d true (.int .i64 200)))⟩,⟨some 6,none,.mv (.t 5)⟩,⟨some 7,some (6,true),.ld (some 4) (.t 1)⟩,⟨some 8,some (6,true),.call (.c (.fn 109 [])) [.t 7]⟩,⟨some 9,none,.pick (.t 6) (.t 8) (.c (.d true (.bool false)))⟩,⟨some 2,none,.mv (.t 9)⟩] [2]) (.ret))
theorem ok55 : FnOk Tryd.prog Tryd.f55 10 keep55 ac55 [.t 2]:=by
  refine ⟨?_,?_,?_,?_,?_⟩ <;> kernel_rfl

/-! spec.TermOk -/
def keep56 : Nat → List Nat
  | 0 => [1]
  | 1 => [2]
  | _ => []
def ac56 : AC:=.seq (.region [⟨some 1,none,.box (.t 0)⟩,⟨some 2,none,.mv (.c (.d true (.bool false)))⟩] [1]) (.seq (.region [⟨some 3,none,.ld (some 4) (.t 1)⟩,⟨some 4,none,.call (.c (.fn 58 [])) [.t 3]⟩,⟨some 5,none,.bin .leq (.t 4) (.c (.d true (.int .i64 200)))⟩,⟨some 6,none,.mv (.t 5)⟩,⟨some 7,some (6,true),.ld (some 4) (.t 1)⟩,⟨some 8,some (6,true),.call (.c (.fn 110 [])) [.t 7]⟩,⟨some 9,none,.pick (.t 6) (.t 8) (.c (.d true (.bool false)))⟩,⟨some 2,none,.mv (.t 9)⟩] [2]) (.ret))
theorem ok56 : FnOk Tryd.prog Tryd.f56 10 keep56 ac56 [.t 2]:=by
  refine ⟨?_,?_,?_,?_,?_⟩ <;> kernel_rfl

/-! impl.TermSize -/
def keep57 : Nat → List Nat
  | 0 => [1]
  | 1 => [1,3]
  | 2 => [3,7,8,9]
  | 3 => [3,7,8,9,10]
  | 4 => [3,5,7,8,9]
  | 5 => [3,7,8,9]
  | 6 => [3,7,8,9]
  | 7 => [2]
  | _ => []
def ac57 : AC:=.seq (.region [⟨some 1,none,.box (.t 0)⟩,⟨some 2,none,.mv (.c (.d true (.int .i64 0)))⟩] [1]) (.seq (.region [⟨some 3,none,.mv (.c (.d true (.int .i64 1)))⟩] [1,3]) (.seq (.seq (.region [⟨some 6,none,.fa 3 (.t 1)⟩,⟨some 7,none,.ld none (.t 6)⟩,⟨some 8,none,.len (.t 7)⟩,⟨some 9,none,.mv (.c (.d true (.int .i64 0)))⟩] [3,7,8,9]) (.block 0 (.loop (.seq (.region [⟨some 10,none,.bin .lss (.t 9) (.t 8)⟩] [3,7,8,9,10]) (.seq (.cond (.t 10) (.skip) (.exit 0)) (.seq (.block 1 (.seq (.region [⟨some 11,none,.ia 4 (.t 7) (.t 9)⟩,⟨some 12,none,.ld (some 4) (.t 11)⟩,⟨some 5,none,.alloc [.d true (.int .i64 0),.d true (.int .i64 0),.d true (.str ⟨#[]⟩),.nil]⟩,⟨none,none,.st 4 (.t 5) (.t 12)⟩] [3,5,7,8,9]) (.region [⟨some 13,none,.mv (.t 3)⟩,⟨some 14,none,.ld (some 4) (.t 5)⟩,⟨some 15,none,.call (.c (.fn 57 [])) [.t 14]⟩,⟨some 16,none,.bin .add (.t 13) (.t 15)⟩,⟨some 3,none,.mv (.t 16)⟩] [3,7,8,9]))) (.region [⟨some 17,none,.bin .add (.t 9) (.c (.d true (.int .i64 1)))⟩,⟨some 9,none,.mv (.t 17)⟩] [3,7,8,9]))))))) (.seq (.region [⟨some 18,none,.mv (.t 3)⟩,⟨some 2,none,.mv (.t 18)⟩] [2]) (.ret))))
theorem ok57 : FnOk Tryd.prog Tryd.f57 19 keep57 ac57 [.t 2]:=by
  refine ⟨?_,?_,?_,?_,?_⟩ <;> kernel_rfl

/-! spec.TermSize -/
def keep58 : Nat → List Nat
  | 0 => [1]
  | 1 => [1,3]
  | 2 => [1,3,4]
  | 3 => [1,3,4,9]
  | 4 => [1,3,4]
  | 5 => [1,3,4]
  | 6 => [2]
  | _ => []
def ac58 : AC:=.seq (.region [⟨some 1,none,.box (.t 0)⟩,⟨some 2,none,.mv (.c (.d true (.int .i64 0)))⟩] [1]) (.seq (.region [⟨some 3,none,.mv (.c (.d true (.int .i64 1)))⟩] [1,3]) (.seq (.seq (.region [⟨some 4,none,.mv (.c (.d true (.int .i64 0)))⟩] [1,3,4]) (.block 0 (.loop (.seq (.seq (.region [⟨some 5,none,.mv (.t 4)⟩,⟨some 6,none,.fa 3 (.t 1)⟩,⟨some 7,none,.ld none (.t 6)⟩,⟨some 8,none,.len (.t 7)⟩,⟨some 9,none,.bin .lss (.t 5) (.t 8)⟩] [1,3,4,9]) (.cond (.t 9) (.skip) (.exit 0))) (.seq (.block 1 (.region [⟨some 12,none,.mv (.t 3)⟩,⟨some 13,none,.fa 3 (.t 1)⟩,⟨some 14,none,.ld none (.t 13)⟩,⟨some 15,none,.mv (.t 4)⟩,⟨some 16,none,.ia 4 (.t 14) (.t 15)⟩,⟨some 17,none,.ld (some 4) (.t 16)⟩,⟨some 18,none,.call (.c (.fn 58 [])) [.t 17]⟩,⟨some 19,none,.bin .add (.t 12) (.t 18)⟩,⟨some 3,none,.mv (.t 19)⟩] [1,3,4])) (.region [⟨some 10,none,.mv (.t 4)⟩,⟨some 11,none,.bin .add (.t 10) (.c (.d true (.int .i64 1)))⟩,⟨some 4,none,.mv (.t 11)⟩] [1,3,4])))))) (.seq (.region [⟨some 20,none,.mv (.t 3)⟩,⟨some 2,none,.mv (.t 20)⟩] [2]) (.ret))))
theorem ok58 : FnOk Tryd.prog Tryd.f58 21 keep58 ac58 [.t 2]:=by
  refine ⟨?_,?_,?_,?_,?_⟩ <;> kernel_rfl

/-! impl.TermText -/
/-! spec.TermText -/
/-! laws.szPolicy -/
/-! spec.PolicyText -/
/-! laws.toPolicy -/
/-! impl.PolicyText -/
/-! laws.eqPolicy -/
/-! laws.szCert -/
/-! spec.CertTerm -/
end Go.Proofs.YtlddcimpdkcgeaaDoor
