/- Functions, as code over abstract states. -/
import Derived.Test.YtdnenindpapniaaDoorS12
import Derived.Test.YtdnenindpapniaaDoorProg
set_option linter.unusedVariables false
set_option linter.unusedSimpArgs false
set_option maxRecDepth 100000
namespace Go.Proofs.YtdnenindpapniaaDoor
open Go.RowKit Sym

theorem mo : Tryd.prog.follows .mixedOrders = true := by kernel_rfl
/-! laws.FnExactPatternOk -/
def keep3 : Nat → List Nat
  | 0 => [0]
  | 1 => [0, 7]
  | 2 => [2]
  | 3 => [0, 3]
  | 4 => [3, 4]
  | 5 => [14]
  | 6 => [2]
  | 7 => [2]
  | _ => []
def ac3 : AC := .seq (.region [⟨some 2, none, .mv (.c (.d true (.bool false)))⟩] [0]) (.seq (.seq (.region [⟨some 5, none, .mv (.t 0)⟩, ⟨some 6, none, .slen (.t 5)⟩, ⟨some 7, none, .bin .gtr (.t 6) (.c (.d true (.int .i64 1048576)))⟩] [0, 7]) (.cond (.t 7) (.seq (.region [⟨some 2, none, .mv (.c (.d true (.bool true)))⟩] [2]) (.ret)) (.skip))) (.seq (.region [⟨some 8, none, .mv (.t 0)⟩, ⟨some 9, none, .call (.c (.fn 15 [])) [.t 8]⟩, ⟨some 3, none, .mv (.t 9)⟩] [0, 3]) (.seq (.region [⟨some 10, none, .mv (.t 0)⟩, ⟨some 11, none, .call (.c (.fn 16 [])) [.t 10]⟩, ⟨some 4, none, .mv (.t 11)⟩] [3, 4]) (.seq (.seq (.region [⟨some 12, none, .mv (.t 4)⟩, ⟨some 13, none, .mv (.t 3)⟩, ⟨some 14, none, .beq true (.t 12) (.t 13)⟩] [14]) (.cond (.t 14) (.seq (.region [⟨some 2, none, .mv (.c (.d true (.bool false)))⟩] [2]) (.ret)) (.skip))) (.seq (.region [⟨some 2, none, .mv (.c (.d true (.bool true)))⟩] [2]) (.ret))))))
theorem ok3 : FnOk Tryd.prog Tryd.f3 15 keep3 ac3 [.t 2] := by
  refine ⟨?_, ?_, ?_, ?_, ?_⟩ <;> kernel_rfl

/-! laws.FnExactFits -/
def keep4 : Nat → List Nat
  | 0 => [0, 1]
  | 1 => [0, 1, 9]
  | 2 => [4]
  | 3 => [0, 1, 12]
  | 4 => [4]
  | 5 => [0, 1, 5]
  | 6 => [5, 6]
  | 7 => [21]
  | 8 => [4]
  | 9 => [4]
  | _ => []
def ac4 : AC := .seq (.region [⟨some 4, none, .mv (.c (.d true (.bool false)))⟩] [0, 1]) (.seq (.seq (.region [⟨some 7, none, .mv (.t 0)⟩, ⟨some 8, none, .slen (.t 7)⟩, ⟨some 9, none, .bin .gtr (.t 8) (.c (.d true (.int .i64 1048576)))⟩] [0, 1, 9]) (.cond (.t 9) (.seq (.region [⟨some 4, none, .mv (.c (.d true (.bool true)))⟩] [4]) (.ret)) (.skip))) (.seq (.seq (.region [⟨some 10, none, .mv (.t 1)⟩, ⟨some 11, none, .slen (.t 10)⟩, ⟨some 12, none, .bin .gtr (.t 11) (.c (.d true (.int .i64 1048576)))⟩] [0, 1, 12]) (.cond (.t 12) (.seq (.region [⟨some 4, none, .mv (.c (.d true (.bool true)))⟩] [4]) (.ret)) (.skip))) (.seq (.region [⟨some 13, none, .mv (.t 0)⟩, ⟨some 14, none, .mv (.t 1)⟩, ⟨some 15, none, .call (.c (.fn 17 [])) [.t 13, .t 14]⟩, ⟨some 5, none, .mv (.t 15)⟩] [0, 1, 5]) (.seq (.region [⟨some 16, none, .mv (.t 0)⟩, ⟨some 17, none, .mv (.t 1)⟩, ⟨some 18, none, .call (.c (.fn 18 [])) [.t 16, .t 17]⟩, ⟨some 6, none, .mv (.t 18)⟩] [5, 6]) (.seq (.seq (.region [⟨some 19, none, .mv (.t 6)⟩, ⟨some 20, none, .mv (.t 5)⟩, ⟨some 21, none, .beq true (.t 19) (.t 20)⟩] [21]) (.cond (.t 21) (.seq (.region [⟨some 4, none, .mv (.c (.d true (.bool false)))⟩] [4]) (.ret)) (.skip))) (.seq (.region [⟨some 4, none, .mv (.c (.d true (.bool true)))⟩] [4]) (.ret)))))))
theorem ok4 : FnOk Tryd.prog Tryd.f4 22 keep4 ac4 [.t 4] := by
  refine ⟨?_, ?_, ?_, ?_, ?_⟩ <;> kernel_rfl

/-! laws.FnExactPolicyOk -/
def keep5 : Nat → List Nat
  | 0 => [1]
  | 1 => [1, 3]
  | 2 => [1, 3]
  | 3 => [1, 11]
  | 4 => [2]
  | 5 => [1, 4]
  | 6 => [1, 4, 5]
  | 7 => [1, 4, 5, 6]
  | 8 => [1, 5, 21]
  | 9 => [2]
  | 10 => [26]
  | 11 => [2]
  | 12 => [2]
  | 1000010 => [1]
  | _ => []
def ac5 : AC := .seq (.region [⟨some 1, none, .box (.t 0)⟩, ⟨some 2, none, .mv (.c (.d true (.bool false)))⟩] [1]) (.seq (.region [⟨some 3, none, .mv (.c (.d true (.int .i64 1048576)))⟩] [1, 3]) (.seq (.region [⟨some 7, none, .ld (some 4) (.t 1)⟩, ⟨some 8, none, .mv (.t 3)⟩, ⟨some 9, none, .call (.c (.fn 19 [])) [.t 7, .t 8]⟩, ⟨some 3, none, .mv (.t 9)⟩] [1, 3]) (.seq (.seq (.region [⟨some 10, none, .mv (.t 3)⟩, ⟨some 11, none, .bin .lss (.t 10) (.c (.d true (.int .i64 0)))⟩] [1, 11]) (.cond (.t 11) (.seq (.region [⟨some 2, none, .mv (.c (.d true (.bool true)))⟩] [2]) (.ret)) (.skip))) (.seq (.region [⟨some 12, none, .ld (some 4) (.t 1)⟩, ⟨some 13, none, .call (.c (.fn 21 [])) [.t 12]⟩, ⟨some 14, none, .call (.c (.fn 20 [])) [.t 13]⟩, ⟨some 4, none, .mv (.t 14)⟩] [1, 4]) (.seq (.region [⟨some 15, none, .ld (some 4) (.t 1)⟩, ⟨some 16, none, .call (.c (.fn 21 [])) [.t 15]⟩, ⟨some 5, none, .alloc [.d true (.str ⟨#[]⟩), .d true (.int .i64 0), .nil, .d true (.int .i64 0)]⟩, ⟨none, none, .st 4 (.t 5) (.t 16)⟩] [1, 4, 5]) (.seq (.region [⟨some 17, none, .ld (some 4) (.t 5)⟩, ⟨some 18, none, .call (.c (.fn 22 [])) [.t 17]⟩, ⟨some 6, none, .mv (.t 18)⟩] [1, 4, 5, 6]) (.seq (.seq (.region [⟨some 19, none, .mv (.t 6)⟩, ⟨some 20, none, .mv (.t 4)⟩, ⟨some 21, none, .beq true (.t 19) (.t 20)⟩] [1, 5, 21]) (.cond (.t 21) (.seq (.region [⟨some 2, none, .mv (.c (.d true (.bool false)))⟩] [2]) (.ret)) (.skip))) (.seq (.seq (.tree (.take ⟨some 22, none, .ld (some 4) (.t 5)⟩ (.take ⟨some 23, none, .ld (some 4) (.t 1)⟩ (.br (.cons ⟨some 24, none, .call (.c (.fn 21 [])) [.t 23]⟩ (.br (.cons ⟨some 25, none, .call (.c (.fn 23 [])) [.t 22, .t 24]⟩ (.take ⟨some 26, none, .not (.t 25)⟩ (.done)) (.nil))) (.nil))))) [26]) (.cond (.t 26) (.seq (.region [⟨some 2, none, .mv (.c (.d true (.bool false)))⟩] [2]) (.ret)) (.skip))) (.seq (.region [⟨some 2, none, .mv (.c (.d true (.bool true)))⟩] [2]) (.ret))))))))))
theorem ok5 : FnOk Tryd.prog Tryd.f5 27 keep5 ac5 [.t 2] := by
  refine ⟨?_, ?_, ?_, ?_, ?_⟩ <;> kernel_rfl

/-! laws.FnExactTermText -/
def keep6 : Nat → List Nat
  | 0 => [1]
  | 1 => [1, 3]
  | 2 => [1, 3]
  | 3 => [1, 11]
  | 4 => [2]
  | 5 => [1, 4]
  | 6 => [1, 4, 5]
  | 7 => [1, 4, 5, 6]
  | 8 => [1, 5, 21]
  | 9 => [2]
  | 10 => [26]
  | 11 => [2]
  | 12 => [2]
  | 1000010 => [1]
  | _ => []
def ac6 : AC := .seq (.region [⟨some 1, none, .box (.t 0)⟩, ⟨some 2, none, .mv (.c (.d true (.bool false)))⟩] [1]) (.seq (.region [⟨some 3, none, .mv (.c (.d true (.int .i64 1048576)))⟩] [1, 3]) (.seq (.region [⟨some 7, none, .ld (some 4) (.t 1)⟩, ⟨some 8, none, .mv (.t 3)⟩, ⟨some 9, none, .call (.c (.fn 24 [])) [.t 7, .t 8]⟩, ⟨some 3, none, .mv (.t 9)⟩] [1, 3]) (.seq (.seq (.region [⟨some 10, none, .mv (.t 3)⟩, ⟨some 11, none, .bin .lss (.t 10) (.c (.d true (.int .i64 0)))⟩] [1, 11]) (.cond (.t 11) (.seq (.region [⟨some 2, none, .mv (.c (.d true (.bool true)))⟩] [2]) (.ret)) (.skip))) (.seq (.region [⟨some 12, none, .ld (some 4) (.t 1)⟩, ⟨some 13, none, .call (.c (.fn 26 [])) [.t 12]⟩, ⟨some 14, none, .call (.c (.fn 25 [])) [.t 13]⟩, ⟨some 4, none, .mv (.t 14)⟩] [1, 4]) (.seq (.region [⟨some 15, none, .ld (some 4) (.t 1)⟩, ⟨some 16, none, .call (.c (.fn 26 [])) [.t 15]⟩, ⟨some 5, none, .alloc [.d true (.int .i64 0), .d true (.int .i64 0), .d true (.str ⟨#[]⟩), .nil]⟩, ⟨none, none, .st 4 (.t 5) (.t 16)⟩] [1, 4, 5]) (.seq (.region [⟨some 17, none, .ld (some 4) (.t 5)⟩, ⟨some 18, none, .call (.c (.fn 27 [])) [.t 17]⟩, ⟨some 6, none, .mv (.t 18)⟩] [1, 4, 5, 6]) (.seq (.seq (.region [⟨some 19, none, .mv (.t 6)⟩, ⟨some 20, none, .mv (.t 4)⟩, ⟨some 21, none, .bin .neq (.t 19) (.t 20)⟩] [1, 5, 21]) (.cond (.t 21) (.seq (.region [⟨some 2, none, .mv (.c (.d true (.bool false)))⟩] [2]) (.ret)) (.skip))) (.seq (.seq (.tree (.take ⟨some 22, none, .ld (some 4) (.t 5)⟩ (.take ⟨some 23, none, .ld (some 4) (.t 1)⟩ (.br (.cons ⟨some 24, none, .call (.c (.fn 26 [])) [.t 23]⟩ (.br (.cons ⟨some 25, none, .call (.c (.fn 28 [])) [.t 22, .t 24]⟩ (.take ⟨some 26, none, .not (.t 25)⟩ (.done)) (.nil))) (.nil))))) [26]) (.cond (.t 26) (.seq (.region [⟨some 2, none, .mv (.c (.d true (.bool false)))⟩] [2]) (.ret)) (.skip))) (.seq (.region [⟨some 2, none, .mv (.c (.d true (.bool true)))⟩] [2]) (.ret))))))))))
theorem ok6 : FnOk Tryd.prog Tryd.f6 27 keep6 ac6 [.t 2] := by
  refine ⟨?_, ?_, ?_, ?_, ?_⟩ <;> kernel_rfl

/-! laws.FnExactMay -/
def keep7 : Nat → List Nat
  | 0 => [1, 2, 3]
  | 1 => [1, 2, 3, 13]
  | 2 => [6]
  | 3 => [1, 2, 3, 7]
  | 4 => [1, 2, 3, 7]
  | 5 => [1, 2, 3, 18]
  | 6 => [6]
  | 7 => [1, 2, 3, 8]
  | 8 => [1, 2, 3, 8, 9]
  | 9 => [3, 8, 9, 10]
  | 10 => [3, 9, 32]
  | 11 => [6]
  | 12 => [37]
  | 13 => [6]
  | 14 => [6]
  | 1000012 => [1]
  | _ => []
def ac7 : AC := .seq (.region [⟨some 3, none, .box (.t 0)⟩, ⟨some 6, none, .mv (.c (.d true (.bool false)))⟩] [1, 2, 3]) (.seq (.seq (.region [⟨some 11, none, .mv (.t 1)⟩, ⟨some 12, none, .slen (.t 11)⟩, ⟨some 13, none, .bin .gtr (.t 12) (.c (.d true (.int .i64 1048576)))⟩] [1, 2, 3, 13]) (.cond (.t 13) (.seq (.region [⟨some 6, none, .mv (.c (.d true (.bool true)))⟩] [6]) (.ret)) (.skip))) (.seq (.region [⟨some 7, none, .mv (.c (.d true (.int .i64 1048576)))⟩] [1, 2, 3, 7]) (.seq (.region [⟨some 14, none, .ld (some 4) (.t 3)⟩, ⟨some 15, none, .mv (.t 7)⟩, ⟨some 16, none, .call (.c (.fn 19 [])) [.t 14, .t 15]⟩, ⟨some 7, none, .mv (.t 16)⟩] [1, 2, 3, 7]) (.seq (.seq (.region [⟨some 17, none, .mv (.t 7)⟩, ⟨some 18, none, .bin .lss (.t 17) (.c (.d true (.int .i64 0)))⟩] [1, 2, 3, 18]) (.cond (.t 18) (.seq (.region [⟨some 6, none, .mv (.c (.d true (.bool true)))⟩] [6]) (.ret)) (.skip))) (.seq (.region [⟨some 19, none, .ld (some 4) (.t 3)⟩, ⟨some 20, none, .call (.c (.fn 21 [])) [.t 19]⟩, ⟨some 21, none, .mv (.t 1)⟩, ⟨some 22, none, .mv (.t 2)⟩, ⟨some 23, none, .call (.c (.fn 29 [])) [.t 20, .t 21, .t 22]⟩, ⟨some 8, none, .mv (.t 23)⟩] [1, 2, 3, 8]) (.seq (.region [⟨some 24, none, .ld (some 4) (.t 3)⟩, ⟨some 25, none, .call (.c (.fn 21 [])) [.t 24]⟩, ⟨some 9, none, .alloc [.d true (.str ⟨#[]⟩), .d true (.int .i64 0), .nil, .d true (.int .i64 0)]⟩, ⟨none, none, .st 4 (.t 9) (.t 25)⟩] [1, 2, 3, 8, 9]) (.seq (.region [⟨some 26, none, .ld (some 4) (.t 9)⟩, ⟨some 27, none, .mv (.t 1)⟩, ⟨some 28, none, .mv (.t 2)⟩, ⟨some 29, none, .call (.c (.fn 30 [])) [.t 26, .t 27, .t 28]⟩, ⟨some 10, none, .mv (.t 29)⟩] [3, 8, 9, 10]) (.seq (.seq (.region [⟨some 30, none, .mv (.t 10)⟩, ⟨some 31, none, .mv (.t 8)⟩, ⟨some 32, none, .beq true (.t 30) (.t 31)⟩] [3, 9, 32]) (.cond (.t 32) (.seq (.region [⟨some 6, none, .mv (.c (.d true (.bool false)))⟩] [6]) (.ret)) (.skip))) (.seq (.seq (.tree (.take ⟨some 33, none, .ld (some 4) (.t 9)⟩ (.take ⟨some 34, none, .ld (some 4) (.t 3)⟩ (.br (.cons ⟨some 35, none, .call (.c (.fn 21 [])) [.t 34]⟩ (.br (.cons ⟨some 36, none, .call (.c (.fn 23 [])) [.t 33, .t 35]⟩ (.take ⟨some 37, none, .not (.t 36)⟩ (.done)) (.nil))) (.nil))))) [37]) (.cond (.t 37) (.seq (.region [⟨some 6, none, .mv (.c (.d true (.bool false)))⟩] [6]) (.ret)) (.skip))) (.seq (.region [⟨some 6, none, .mv (.c (.d true (.bool true)))⟩] [6]) (.ret)))))))))))
theorem ok7 : FnOk Tryd.prog Tryd.f7 38 keep7 ac7 [.t 6] := by
  refine ⟨?_, ?_, ?_, ?_, ?_⟩ <;> kernel_rfl

/-! laws.FnExactCacheOk -/
def keep8 : Nat → List Nat
  | 0 => [0]
  | 1 => [0, 3]
  | 2 => [0, 3]
  | 3 => [0, 11]
  | 4 => [2]
  | 5 => [0, 4]
  | 6 => [0, 4, 5]
  | 7 => [0, 4, 5, 6]
  | 8 => [0, 5, 21]
  | 9 => [2]
  | 10 => [26]
  | 11 => [2]
  | 12 => [2]
  | _ => []
def ac8 : AC := .seq (.region [⟨some 2, none, .mv (.c (.d true (.bool false)))⟩] [0]) (.seq (.region [⟨some 3, none, .mv (.c (.d true (.int .i64 1048576)))⟩] [0, 3]) (.seq (.region [⟨some 7, none, .mv (.t 0)⟩, ⟨some 8, none, .mv (.t 3)⟩, ⟨some 9, none, .call (.c (.fn 31 [])) [.t 7, .t 8]⟩, ⟨some 3, none, .mv (.t 9)⟩] [0, 3]) (.seq (.seq (.region [⟨some 10, none, .mv (.t 3)⟩, ⟨some 11, none, .bin .lss (.t 10) (.c (.d true (.int .i64 0)))⟩] [0, 11]) (.cond (.t 11) (.seq (.region [⟨some 2, none, .mv (.c (.d true (.bool true)))⟩] [2]) (.ret)) (.skip))) (.seq (.region [⟨some 12, none, .mv (.t 0)⟩, ⟨some 13, none, .call (.c (.fn 33 [])) [.t 12]⟩, ⟨some 14, none, .call (.c (.fn 32 [])) [.t 13]⟩, ⟨some 4, none, .mv (.t 14)⟩] [0, 4]) (.seq (.region [⟨some 15, none, .mv (.t 0)⟩, ⟨some 16, none, .call (.c (.fn 33 [])) [.t 15]⟩, ⟨some 5, none, .mv (.t 16)⟩] [0, 4, 5]) (.seq (.region [⟨some 17, none, .mv (.t 5)⟩, ⟨some 18, none, .call (.c (.fn 34 [])) [.t 17]⟩, ⟨some 6, none, .mv (.t 18)⟩] [0, 4, 5, 6]) (.seq (.seq (.region [⟨some 19, none, .mv (.t 6)⟩, ⟨some 20, none, .mv (.t 4)⟩, ⟨some 21, none, .beq true (.t 19) (.t 20)⟩] [0, 5, 21]) (.cond (.t 21) (.seq (.region [⟨some 2, none, .mv (.c (.d true (.bool false)))⟩] [2]) (.ret)) (.skip))) (.seq (.seq (.region [⟨some 22, none, .mv (.t 5)⟩, ⟨some 23, none, .mv (.t 0)⟩, ⟨some 24, none, .call (.c (.fn 33 [])) [.t 23]⟩, ⟨some 25, none, .call (.c (.fn 35 [])) [.t 22, .t 24]⟩, ⟨some 26, none, .not (.t 25)⟩] [26]) (.cond (.t 26) (.seq (.region [⟨some 2, none, .mv (.c (.d true (.bool false)))⟩] [2]) (.ret)) (.skip))) (.seq (.region [⟨some 2, none, .mv (.c (.d true (.bool true)))⟩] [2]) (.ret))))))))))
theorem ok8 : FnOk Tryd.prog Tryd.f8 27 keep8 ac8 [.t 2] := by
  refine ⟨?_, ?_, ?_, ?_, ?_⟩ <;> kernel_rfl

/-! laws.FnExactCertOk -/
def keep9 : Nat → List Nat
  | 0 => [1]
  | 1 => [1, 3]
  | 2 => [1, 3]
  | 3 => [1, 11]
  | 4 => [2]
  | 5 => [1, 4]
  | 6 => [1, 4, 5]
  | 7 => [1, 4, 5, 6]
  | 8 => [1, 5, 21]
  | 9 => [2]
  | 10 => [26]
  | 11 => [2]
  | 12 => [2]
  | 1000010 => [1]
  | _ => []
def ac9 : AC := .seq (.region [⟨some 1, none, .box (.t 0)⟩, ⟨some 2, none, .mv (.c (.d true (.bool false)))⟩] [1]) (.seq (.region [⟨some 3, none, .mv (.c (.d true (.int .i64 1048576)))⟩] [1, 3]) (.seq (.region [⟨some 7, none, .ld (some 6) (.t 1)⟩, ⟨some 8, none, .mv (.t 3)⟩, ⟨some 9, none, .call (.c (.fn 36 [])) [.t 7, .t 8]⟩, ⟨some 3, none, .mv (.t 9)⟩] [1, 3]) (.seq (.seq (.region [⟨some 10, none, .mv (.t 3)⟩, ⟨some 11, none, .bin .lss (.t 10) (.c (.d true (.int .i64 0)))⟩] [1, 11]) (.cond (.t 11) (.seq (.region [⟨some 2, none, .mv (.c (.d true (.bool true)))⟩] [2]) (.ret)) (.skip))) (.seq (.region [⟨some 12, none, .ld (some 6) (.t 1)⟩, ⟨some 13, none, .call (.c (.fn 38 [])) [.t 12]⟩, ⟨some 14, none, .call (.c (.fn 37 [])) [.t 13]⟩, ⟨some 4, none, .mv (.t 14)⟩] [1, 4]) (.seq (.region [⟨some 15, none, .ld (some 6) (.t 1)⟩, ⟨some 16, none, .call (.c (.fn 38 [])) [.t 15]⟩, ⟨some 5, none, .alloc [.d true (.str ⟨#[]⟩), .d true (.int .i64 0), .d true (.int .i64 0), .d true (.str ⟨#[]⟩), .nil, .d true (.int .i64 0)]⟩, ⟨none, none, .st 6 (.t 5) (.t 16)⟩] [1, 4, 5]) (.seq (.region [⟨some 17, none, .ld (some 6) (.t 5)⟩, ⟨some 18, none, .call (.c (.fn 39 [])) [.t 17]⟩, ⟨some 6, none, .mv (.t 18)⟩] [1, 4, 5, 6]) (.seq (.seq (.region [⟨some 19, none, .mv (.t 6)⟩, ⟨some 20, none, .mv (.t 4)⟩, ⟨some 21, none, .beq true (.t 19) (.t 20)⟩] [1, 5, 21]) (.cond (.t 21) (.seq (.region [⟨some 2, none, .mv (.c (.d true (.bool false)))⟩] [2]) (.ret)) (.skip))) (.seq (.seq (.tree (.take ⟨some 22, none, .ld (some 6) (.t 5)⟩ (.take ⟨some 23, none, .ld (some 6) (.t 1)⟩ (.br (.cons ⟨some 24, none, .call (.c (.fn 38 [])) [.t 23]⟩ (.br (.cons ⟨some 25, none, .call (.c (.fn 40 [])) [.t 22, .t 24]⟩ (.take ⟨some 26, none, .not (.t 25)⟩ (.done)) (.nil))) (.nil))))) [26]) (.cond (.t 26) (.seq (.region [⟨some 2, none, .mv (.c (.d true (.bool false)))⟩] [2]) (.ret)) (.skip))) (.seq (.region [⟨some 2, none, .mv (.c (.d true (.bool true)))⟩] [2]) (.ret))))))))))
theorem ok9 : FnOk Tryd.prog Tryd.f9 27 keep9 ac9 [.t 2] := by
  refine ⟨?_, ?_, ?_, ?_, ?_⟩ <;> kernel_rfl

/-! laws.FnExactOpen -/
def keep10 : Nat → List Nat
  | 0 => [1, 3, 5]
  | 1 => [1, 3, 5, 7]
  | 2 => [1, 3, 5, 7]
  | 3 => [1, 3, 5, 7, 23]
  | 4 => [6]
  | 5 => [1, 3, 5, 7]
  | 6 => [1, 3, 5, 28]
  | 7 => [6]
  | 8 => [1, 3, 5, 8, 9]
  | 9 => [1, 3, 5, 8, 9, 10]
  | 10 => [1, 3, 5, 8, 9, 10, 11]
  | 11 => [1, 3, 5, 8, 9, 10, 11, 12, 13]
  | 12 => [1, 3, 5, 8, 9, 10, 11, 12, 13, 57]
  | 13 => [6]
  | 14 => [1, 3, 5, 8, 9, 10, 11, 12, 13, 62]
  | 15 => [6]
  | 16 => [1, 3, 5, 8, 9, 10, 11, 12, 13, 67]
  | 17 => [6]
  | 18 => [1, 3, 5, 8, 9, 10, 11, 12, 13, 14]
  | 19 => [1, 3, 5, 8, 9, 11, 12, 13, 14]
  | 20 => [1, 3, 5, 8, 9, 12, 13, 14]
  | 21 => [1, 3, 5, 8, 9, 12, 86]
  | 22 => [6]
  | 23 => [1, 3, 5, 8, 9, 12, 15]
  | 24 => [1, 3, 5, 8, 9, 12, 15]
  | 25 => [1, 3, 5, 8, 9, 12, 15, 16]
  | 26 => [1, 3, 5, 8, 9, 12, 15, 16]
  | 27 => [1, 3, 5, 8, 9, 12, 15, 16, 94]
  | 28 => [6]
  | 29 => [1, 3, 5, 8, 9, 12, 15, 97]
  | 30 => [6]
  | 31 => [8, 9, 12, 15, 17, 18]
  | 32 => [12, 15, 115]
  | 33 => [6]
  | 34 => [12, 15, 16]
  | 35 => [15, 16]
  | 36 => [15, 16, 120]
  | 37 => [6]
  | 38 => [123]
  | 39 => [6]
  | 40 => [6]
  | 1000008 => [1]
  | 1000014 => [1]
  | 1000016 => [1]
  | 1000031 => [1]
  | _ => []
def ac10 : AC := .seq (.region [⟨some 3, none, .box (.t 0)⟩, ⟨some 5, none, .box (.t 2)⟩, ⟨some 6, none, .mv (.c (.d true (.bool false)))⟩] [1, 3, 5]) (.seq (.region [⟨some 7, none, .mv (.c (.d true (.int .i64 1048576)))⟩] [1, 3, 5, 7]) (.seq (.region [⟨some 19, none, .ld (some 4) (.t 3)⟩, ⟨some 20, none, .mv (.t 7)⟩, ⟨some 21, none, .call (.c (.fn 24 [])) [.t 19, .t 20]⟩, ⟨some 7, none, .mv (.t 21)⟩] [1, 3, 5, 7]) (.seq (.seq (.region [⟨some 22, none, .mv (.t 7)⟩, ⟨some 23, none, .bin .lss (.t 22) (.c (.d true (.int .i64 0)))⟩] [1, 3, 5, 7, 23]) (.cond (.t 23) (.seq (.region [⟨some 6, none, .mv (.c (.d true (.bool true)))⟩] [6]) (.ret)) (.skip))) (.seq (.region [⟨some 24, none, .ld (some 4) (.t 5)⟩, ⟨some 25, none, .mv (.t 7)⟩, ⟨some 26, none, .call (.c (.fn 24 [])) [.t 24, .t 25]⟩, ⟨some 7, none, .mv (.t 26)⟩] [1, 3, 5, 7]) (.seq (.seq (.region [⟨some 27, none, .mv (.t 7)⟩, ⟨some 28, none, .bin .lss (.t 27) (.c (.d true (.int .i64 0)))⟩] [1, 3, 5, 28]) (.cond (.t 28) (.seq (.region [⟨some 6, none, .mv (.c (.d true (.bool true)))⟩] [6]) (.ret)) (.skip))) (.seq (.tree (.take ⟨some 30, none, .ld (some 4) (.t 3)⟩ (.take ⟨some 32, none, .mv (.t 1)⟩ (.take ⟨some 33, none, .ld (some 4) (.t 5)⟩ (.br (.cons ⟨some 31, none, .call (.c (.fn 26 [])) [.t 30]⟩ (.br (.cons ⟨some 34, none, .call (.c (.fn 26 [])) [.t 33]⟩ (.br (.cons ⟨some 35, none, .call (.c (.fn 41 [])) [.t 31, .t 32, .t 34]⟩ (.take ⟨some 29, none, .mv (.t 35)⟩ (.take ⟨some 36, none, .ext (.t 29) 0⟩ (.take ⟨some 37, none, .ext (.t 29) 1⟩ (.br (.cons ⟨some 8, none, .alloc [.d true (.int .i64 0), .d true (.int .i64 0), .d true (.str ⟨#[]⟩), .nil]⟩ (.br (.cons ⟨none, none, .st 4 (.t 8) (.t 36)⟩ (.take ⟨some 9, none, .mv (.t 37)⟩ (.done)) (.nil))) (.nil)))))) (.cons ⟨some 8, none, .alloc [.d true (.int .i64 0), .d true (.int .i64 0), .d true (.str ⟨#[]⟩), .nil]⟩ (.br (.cons ⟨some 35, none, .call (.c (.fn 41 [])) [.t 31, .t 32, .t 34]⟩ (.take ⟨some 29, none, .mv (.t 35)⟩ (.take ⟨some 36, none, .ext (.t 29) 0⟩ (.take ⟨some 37, none, .ext (.t 29) 1⟩ (.br (.cons ⟨none, none, .st 4 (.t 8) (.t 36)⟩ (.take ⟨some 9, none, .mv (.t 37)⟩ (.done)) (.nil)))))) (.nil))) (.nil)))) (.cons ⟨some 8, none, .alloc [.d true (.int .i64 0), .d true (.int .i64 0), .d true (.str ⟨#[]⟩), .nil]⟩ (.br (.cons ⟨some 34, none, .call (.c (.fn 26 [])) [.t 33]⟩ (.br (.cons ⟨some 35, none, .call (.c (.fn 41 [])) [.t 31, .t 32, .t 34]⟩ (.take ⟨some 29, none, .mv (.t 35)⟩ (.take ⟨some 36, none, .ext (.t 29) 0⟩ (.take ⟨some 37, none, .ext (.t 29) 1⟩ (.br (.cons ⟨none, none, .st 4 (.t 8) (.t 36)⟩ (.take ⟨some 9, none, .mv (.t 37)⟩ (.done)) (.nil)))))) (.nil))) (.nil))) (.nil)))) (.cons ⟨some 8, none, .alloc [.d true (.int .i64 0), .d true (.int .i64 0), .d true (.str ⟨#[]⟩), .nil]⟩ (.br (.cons ⟨some 31, none, .call (.c (.fn 26 [])) [.t 30]⟩ (.br (.cons ⟨some 34, none, .call (.c (.fn 26 [])) [.t 33]⟩ (.br (.cons ⟨some 35, none, .call (.c (.fn 41 [])) [.t 31, .t 32, .t 34]⟩ (.take ⟨some 29, none, .mv (.t 35)⟩ (.take ⟨some 36, none, .ext (.t 29) 0⟩ (.take ⟨some 37, none, .ext (.t 29) 1⟩ (.br (.cons ⟨none, none, .st 4 (.t 8) (.t 36)⟩ (.take ⟨some 9, none, .mv (.t 37)⟩ (.done)) (.nil)))))) (.nil))) (.nil))) (.nil))) (.nil))))))) [1, 3, 5, 8, 9]) (.seq (.region [⟨some 38, none, .ld (some 4) (.t 3)⟩, ⟨some 39, none, .call (.c (.fn 26 [])) [.t 38]⟩, ⟨some 10, none, .alloc [.d true (.int .i64 0), .d true (.int .i64 0), .d true (.str ⟨#[]⟩), .nil]⟩, ⟨none, none, .st 4 (.t 10) (.t 39)⟩] [1, 3, 5, 8, 9, 10]) (.seq (.region [⟨some 40, none, .ld (some 4) (.t 5)⟩, ⟨some 41, none, .call (.c (.fn 26 [])) [.t 40]⟩, ⟨some 11, none, .alloc [.d true (.int .i64 0), .d true (.int .i64 0), .d true (.str ⟨#[]⟩), .nil]⟩, ⟨none, none, .st 4 (.t 11) (.t 41)⟩] [1, 3, 5, 8, 9, 10, 11]) (.seq (.region [⟨some 43, none, .ld (some 4) (.t 10)⟩, ⟨some 44, none, .mv (.t 1)⟩, ⟨some 45, none, .ld (some 4) (.t 11)⟩, ⟨some 46, none, .call (.c (.fn 42 [])) [.t 43, .t 44, .t 45]⟩, ⟨some 42, none, .mv (.t 46)⟩, ⟨some 47, none, .ext (.t 42) 0⟩, ⟨some 48, none, .ext (.t 42) 1⟩, ⟨some 12, none, .alloc [.d true (.int .i64 0), .d true (.int .i64 0), .d true (.str ⟨#[]⟩), .nil]⟩, ⟨none, none, .st 4 (.t 12) (.t 47)⟩, ⟨some 13, none, .mv (.t 48)⟩] [1, 3, 5, 8, 9, 10, 11, 12, 13]) (.seq (.seq (.region [⟨some 49, none, .ld (some 4) (.t 12)⟩, ⟨some 50, none, .ld (some 4) (.t 8)⟩, ⟨some 51, none, .call (.c (.fn 28 [])) [.t 49, .t 50]⟩, ⟨some 52, none, .not (.t 51)⟩, ⟨some 53, none, .mv (.t 52)⟩, ⟨some 54, some (53, false), .mv (.t 13)⟩, ⟨some 55, some (53, false), .mv (.t 9)⟩, ⟨some 56, some (53, false), .beq true (.t 54) (.t 55)⟩, ⟨some 57, none, .pick (.t 53) (.c (.d true (.bool true))) (.t 56)⟩] [1, 3, 5, 8, 9, 10, 11, 12, 13, 57]) (.cond (.t 57) (.seq (.region [⟨some 6, none, .mv (.c (.d true (.bool false)))⟩] [6]) (.ret)) (.skip))) (.seq (.seq (.tree (.take ⟨some 58, none, .ld (some 4) (.t 10)⟩ (.take ⟨some 59, none, .ld (some 4) (.t 3)⟩ (.br (.cons ⟨some 60, none, .call (.c (.fn 26 [])) [.t 59]⟩ (.br (.cons ⟨some 61, none, .call (.c (.fn 28 [])) [.t 58, .t 60]⟩ (.take ⟨some 62, none, .not (.t 61)⟩ (.done)) (.nil))) (.nil))))) [1, 3, 5, 8, 9, 10, 11, 12, 13, 62]) (.cond (.t 62) (.seq (.region [⟨some 6, none, .mv (.c (.d true (.bool false)))⟩] [6]) (.ret)) (.skip))) (.seq (.seq (.tree (.take ⟨some 63, none, .ld (some 4) (.t 11)⟩ (.take ⟨some 64, none, .ld (some 4) (.t 5)⟩ (.br (.cons ⟨some 65, none, .call (.c (.fn 26 [])) [.t 64]⟩ (.br (.cons ⟨some 66, none, .call (.c (.fn 28 [])) [.t 63, .t 65]⟩ (.take ⟨some 67, none, .not (.t 66)⟩ (.done)) (.nil))) (.nil))))) [1, 3, 5, 8, 9, 10, 11, 12, 13, 67]) (.cond (.t 67) (.seq (.region [⟨some 6, none, .mv (.c (.d true (.bool false)))⟩] [6]) (.ret)) (.skip))) (.seq (.region [⟨some 14, none, .mv (.c (.d true (.int .i64 1)))⟩] [1, 3, 5, 8, 9, 10, 11, 12, 13, 14]) (.seq (.region [⟨some 68, none, .ld (some 4) (.t 10)⟩, ⟨some 69, none, .mv (.t 14)⟩, ⟨some 70, none, .call (.c (.fn 43 [])) [.t 68, .t 69]⟩, ⟨some 14, none, .mv (.t 70)⟩] [1, 3, 5, 8, 9, 11, 12, 13, 14]) (.seq (.region [⟨some 71, none, .ld (some 4) (.t 11)⟩, ⟨some 72, none, .mv (.t 14)⟩, ⟨some 73, none, .call (.c (.fn 43 [])) [.t 71, .t 72]⟩, ⟨some 14, none, .mv (.t 73)⟩] [1, 3, 5, 8, 9, 12, 13, 14]) (.seq (.seq (.region [⟨some 74, none, .mv (.t 14)⟩, ⟨some 75, none, .bin .lss (.t 74) (.c (.d true (.int .i64 0)))⟩, ⟨some 76, none, .mv (.t 75)⟩, ⟨some 77, some (76, false), .ld (some 4) (.t 12)⟩, ⟨some 78, some (76, false), .ld (some 4) (.t 8)⟩, ⟨some 79, some (76, false), .call (.c (.fn 28 [])) [.t 77, .t 78]⟩, ⟨some 80, some (76, false), .not (.t 79)⟩, ⟨some 81, none, .pick (.t 76) (.c (.d true (.bool true))) (.t 80)⟩, ⟨some 82, none, .mv (.t 81)⟩, ⟨some 83, some (82, false), .mv (.t 13)⟩, ⟨some 84, some (82, false), .mv (.t 9)⟩, ⟨some 85, some (82, false), .beq true (.t 83) (.t 84)⟩, ⟨some 86, none, .pick (.t 82) (.c (.d true (.bool true))) (.t 85)⟩] [1, 3, 5, 8, 9, 12, 86]) (.cond (.t 86) (.seq (.region [⟨some 6, none, .mv (.c (.d true (.bool false)))⟩] [6]) (.ret)) (.skip))) (.seq (.region [⟨some 15, none, .mv (.c (.d true (.int .i64 1)))⟩] [1, 3, 5, 8, 9, 12, 15]) (.seq (.region [⟨some 87, none, .ld (some 4) (.t 12)⟩, ⟨some 88, none, .mv (.t 15)⟩, ⟨some 89, none, .call (.c (.fn 43 [])) [.t 87, .t 88]⟩, ⟨some 15, none, .mv (.t 89)⟩] [1, 3, 5, 8, 9, 12, 15]) (.seq (.region [⟨some 16, none, .mv (.c (.d true (.int .i64 1)))⟩] [1, 3, 5, 8, 9, 12, 15, 16]) (.seq (.region [⟨some 90, none, .ld (some 4) (.t 12)⟩, ⟨some 91, none, .mv (.t 16)⟩, ⟨some 92, none, .call (.c (.fn 44 [])) [.t 90, .t 91]⟩, ⟨some 16, none, .mv (.t 92)⟩] [1, 3, 5, 8, 9, 12, 15, 16]) (.seq (.seq (.region [⟨some 93, none, .mv (.t 16)⟩, ⟨some 94, none, .bin .lss (.t 93) (.c (.d true (.int .i64 0)))⟩] [1, 3, 5, 8, 9, 12, 15, 16, 94]) (.cond (.t 94) (.seq (.region [⟨some 6, none, .mv (.c (.d true (.bool false)))⟩] [6]) (.ret)) (.skip))) (.seq (.seq (.region [⟨some 95, none, .mv (.t 16)⟩, ⟨some 96, none, .mv (.t 15)⟩, ⟨some 97, none, .bin .neq (.t 95) (.t 96)⟩] [1, 3, 5, 8, 9, 12, 15, 97]) (.cond (.t 97) (.seq (.region [⟨some 6, none, .mv (.c (.d true (.bool false)))⟩] [6]) (.ret)) (.skip))) (.seq (.tree (.take ⟨some 99, none, .ld (some 4) (.t 3)⟩ (.take ⟨some 101, none, .mv (.t 1)⟩ (.take ⟨some 102, none, .ld (some 4) (.t 5)⟩ (.br (.cons ⟨some 100, none, .call (.c (.fn 26 [])) [.t 99]⟩ (.br (.cons ⟨some 103, none, .call (.c (.fn 26 [])) [.t 102]⟩ (.br (.cons ⟨some 104, none, .call (.c (.fn 42 [])) [.t 100, .t 101, .t 103]⟩ (.take ⟨some 98, none, .mv (.t 104)⟩ (.take ⟨some 105, none, .ext (.t 98) 0⟩ (.take ⟨some 106, none, .ext (.t 98) 1⟩ (.br (.cons ⟨some 17, none, .alloc [.d true (.int .i64 0), .d true (.int .i64 0), .d true (.str ⟨#[]⟩), .nil]⟩ (.br (.cons ⟨none, none, .st 4 (.t 17) (.t 105)⟩ (.take ⟨some 18, none, .mv (.t 106)⟩ (.done)) (.nil))) (.nil)))))) (.cons ⟨some 17, none, .alloc [.d true (.int .i64 0), .d true (.int .i64 0), .d true (.str ⟨#[]⟩), .nil]⟩ (.br (.cons ⟨some 104, none, .call (.c (.fn 42 [])) [.t 100, .t 101, .t 103]⟩ (.take ⟨some 98, none, .mv (.t 104)⟩ (.take ⟨some 105, none, .ext (.t 98) 0⟩ (.take ⟨some 106, none, .ext (.t 98) 1⟩ (.br (.cons ⟨none, none, .st 4 (.t 17) (.t 105)⟩ (.take ⟨some 18, none, .mv (.t 106)⟩ (.done)) (.nil)))))) (.nil))) (.nil)))) (.cons ⟨some 17, none, .alloc [.d true (.int .i64 0), .d true (.int .i64 0), .d true (.str ⟨#[]⟩), .nil]⟩ (.br (.cons ⟨some 103, none, .call (.c (.fn 26 [])) [.t 102]⟩ (.br (.cons ⟨some 104, none, .call (.c (.fn 42 [])) [.t 100, .t 101, .t 103]⟩ (.take ⟨some 98, none, .mv (.t 104)⟩ (.take ⟨some 105, none, .ext (.t 98) 0⟩ (.take ⟨some 106, none, .ext (.t 98) 1⟩ (.br (.cons ⟨none, none, .st 4 (.t 17) (.t 105)⟩ (.take ⟨some 18, none, .mv (.t 106)⟩ (.done)) (.nil)))))) (.nil))) (.nil))) (.nil)))) (.cons ⟨some 17, none, .alloc [.d true (.int .i64 0), .d true (.int .i64 0), .d true (.str ⟨#[]⟩), .nil]⟩ (.br (.cons ⟨some 100, none, .call (.c (.fn 26 [])) [.t 99]⟩ (.br (.cons ⟨some 103, none, .call (.c (.fn 26 [])) [.t 102]⟩ (.br (.cons ⟨some 104, none, .call (.c (.fn 42 [])) [.t 100, .t 101, .t 103]⟩ (.take ⟨some 98, none, .mv (.t 104)⟩ (.take ⟨some 105, none, .ext (.t 98) 0⟩ (.take ⟨some 106, none, .ext (.t 98) 1⟩ (.br (.cons ⟨none, none, .st 4 (.t 17) (.t 105)⟩ (.take ⟨some 18, none, .mv (.t 106)⟩ (.done)) (.nil)))))) (.nil))) (.nil))) (.nil))) (.nil))))))) [8, 9, 12, 15, 17, 18]) (.seq (.seq (.region [⟨some 107, none, .ld (some 4) (.t 17)⟩, ⟨some 108, none, .ld (some 4) (.t 8)⟩, ⟨some 109, none, .call (.c (.fn 28 [])) [.t 107, .t 108]⟩, ⟨some 110, none, .not (.t 109)⟩, ⟨some 111, none, .mv (.t 110)⟩, ⟨some 112, some (111, false), .mv (.t 18)⟩, ⟨some 113, some (111, false), .mv (.t 9)⟩, ⟨some 114, some (111, false), .beq true (.t 112) (.t 113)⟩, ⟨some 115, none, .pick (.t 111) (.c (.d true (.bool true))) (.t 114)⟩] [12, 15, 115]) (.cond (.t 115) (.seq (.region [⟨some 6, none, .mv (.c (.d true (.bool false)))⟩] [6]) (.ret)) (.skip))) (.seq (.region [⟨some 16, none, .mv (.c (.d true (.int .i64 1)))⟩] [12, 15, 16]) (.seq (.region [⟨some 116, none, .ld (some 4) (.t 12)⟩, ⟨some 117, none, .mv (.t 16)⟩, ⟨some 118, none, .call (.c (.fn 44 [])) [.t 116, .t 117]⟩, ⟨some 16, none, .mv (.t 118)⟩] [15, 16]) (.seq (.seq (.region [⟨some 119, none, .mv (.t 16)⟩, ⟨some 120, none, .bin .lss (.t 119) (.c (.d true (.int .i64 0)))⟩] [15, 16, 120]) (.cond (.t 120) (.seq (.region [⟨some 6, none, .mv (.c (.d true (.bool false)))⟩] [6]) (.ret)) (.skip))) (.seq (.seq (.region [⟨some 121, none, .mv (.t 16)⟩, ⟨some 122, none, .mv (.t 15)⟩, ⟨some 123, none, .bin .neq (.t 121) (.t 122)⟩] [123]) (.cond (.t 123) (.seq (.region [⟨some 6, none, .mv (.c (.d true (.bool false)))⟩] [6]) (.ret)) (.skip))) (.seq (.region [⟨some 6, none, .mv (.c (.d true (.bool true)))⟩] [6]) (.ret))))))))))))))))))))))))))))))
theorem ok10 : FnOk Tryd.prog Tryd.f10 124 keep10 ac10 [.t 6] := by
  refine ⟨?_, ?_, ?_, ?_, ?_⟩ <;> kernel_rfl

/-! laws.FnExactSeal -/
def keep11 : Nat → List Nat
  | 0 => [1, 3, 5]
  | 1 => [1, 3, 5, 7]
  | 2 => [1, 3, 5, 7]
  | 3 => [1, 3, 5, 7, 20]
  | 4 => [6]
  | 5 => [1, 3, 5, 7]
  | 6 => [1, 3, 5, 25]
  | 7 => [6]
  | 8 => [1, 3, 5, 8]
  | 9 => [1, 3, 5, 8, 9]
  | 10 => [1, 3, 5, 8, 9, 10]
  | 11 => [1, 3, 5, 8, 9, 10, 11]
  | 12 => [1, 3, 5, 8, 9, 10, 11, 43]
  | 13 => [6]
  | 14 => [1, 3, 5, 8, 9, 10, 11, 48]
  | 15 => [6]
  | 16 => [1, 3, 5, 8, 9, 10, 11, 53]
  | 17 => [6]
  | 18 => [1, 3, 5, 8, 9, 10, 11, 12]
  | 19 => [1, 3, 5, 8, 10, 11, 12]
  | 20 => [1, 3, 5, 8, 11, 12]
  | 21 => [1, 3, 5, 8, 11, 67]
  | 22 => [6]
  | 23 => [1, 3, 5, 8, 11, 13]
  | 24 => [1, 3, 5, 8, 11, 13]
  | 25 => [1, 3, 5, 8, 11, 13, 14]
  | 26 => [1, 3, 5, 8, 11, 13, 14]
  | 27 => [1, 3, 5, 8, 11, 13, 14, 75]
  | 28 => [6]
  | 29 => [1, 3, 5, 8, 11, 13, 78]
  | 30 => [6]
  | 31 => [8, 11, 13, 15]
  | 32 => [11, 13, 88]
  | 33 => [6]
  | 34 => [11, 13, 14]
  | 35 => [13, 14]
  | 36 => [13, 14, 93]
  | 37 => [6]
  | 38 => [96]
  | 39 => [6]
  | 40 => [6]
  | 1000008 => [1]
  | 1000014 => [1]
  | 1000016 => [1]
  | 1000031 => [1]
  | _ => []
def ac11 : AC := .seq (.region [⟨some 3, none, .box (.t 0)⟩, ⟨some 5, none, .box (.t 2)⟩, ⟨some 6, none, .mv (.c (.d true (.bool false)))⟩] [1, 3, 5]) (.seq (.region [⟨some 7, none, .mv (.c (.d true (.int .i64 1048576)))⟩] [1, 3, 5, 7]) (.seq (.region [⟨some 16, none, .ld (some 4) (.t 3)⟩, ⟨some 17, none, .mv (.t 7)⟩, ⟨some 18, none, .call (.c (.fn 24 [])) [.t 16, .t 17]⟩, ⟨some 7, none, .mv (.t 18)⟩] [1, 3, 5, 7]) (.seq (.seq (.region [⟨some 19, none, .mv (.t 7)⟩, ⟨some 20, none, .bin .lss (.t 19) (.c (.d true (.int .i64 0)))⟩] [1, 3, 5, 7, 20]) (.cond (.t 20) (.seq (.region [⟨some 6, none, .mv (.c (.d true (.bool true)))⟩] [6]) (.ret)) (.skip))) (.seq (.region [⟨some 21, none, .ld (some 4) (.t 5)⟩, ⟨some 22, none, .mv (.t 7)⟩, ⟨some 23, none, .call (.c (.fn 24 [])) [.t 21, .t 22]⟩, ⟨some 7, none, .mv (.t 23)⟩] [1, 3, 5, 7]) (.seq (.seq (.region [⟨some 24, none, .mv (.t 7)⟩, ⟨some 25, none, .bin .lss (.t 24) (.c (.d true (.int .i64 0)))⟩] [1, 3, 5, 25]) (.cond (.t 25) (.seq (.region [⟨some 6, none, .mv (.c (.d true (.bool true)))⟩] [6]) (.ret)) (.skip))) (.seq (.tree (.take ⟨some 26, none, .ld (some 4) (.t 3)⟩ (.take ⟨some 28, none, .mv (.t 1)⟩ (.take ⟨some 29, none, .ld (some 4) (.t 5)⟩ (.br (.cons ⟨some 27, none, .call (.c (.fn 26 [])) [.t 26]⟩ (.br (.cons ⟨some 30, none, .call (.c (.fn 26 [])) [.t 29]⟩ (.br (.cons ⟨some 31, none, .call (.c (.fn 45 [])) [.t 27, .t 28, .t 30]⟩ (.br (.cons ⟨some 8, none, .alloc [.d true (.int .i64 0), .d true (.int .i64 0), .d true (.str ⟨#[]⟩), .nil]⟩ (.br (.cons ⟨none, none, .st 4 (.t 8) (.t 31)⟩ (.done) (.nil))) (.nil))) (.cons ⟨some 8, none, .alloc [.d true (.int .i64 0), .d true (.int .i64 0), .d true (.str ⟨#[]⟩), .nil]⟩ (.br (.cons ⟨some 31, none, .call (.c (.fn 45 [])) [.t 27, .t 28, .t 30]⟩ (.br (.cons ⟨none, none, .st 4 (.t 8) (.t 31)⟩ (.done) (.nil))) (.nil))) (.nil)))) (.cons ⟨some 8, none, .alloc [.d true (.int .i64 0), .d true (.int .i64 0), .d true (.str ⟨#[]⟩), .nil]⟩ (.br (.cons ⟨some 30, none, .call (.c (.fn 26 [])) [.t 29]⟩ (.br (.cons ⟨some 31, none, .call (.c (.fn 45 [])) [.t 27, .t 28, .t 30]⟩ (.br (.cons ⟨none, none, .st 4 (.t 8) (.t 31)⟩ (.done) (.nil))) (.nil))) (.nil))) (.nil)))) (.cons ⟨some 8, none, .alloc [.d true (.int .i64 0), .d true (.int .i64 0), .d true (.str ⟨#[]⟩), .nil]⟩ (.br (.cons ⟨some 27, none, .call (.c (.fn 26 [])) [.t 26]⟩ (.br (.cons ⟨some 30, none, .call (.c (.fn 26 [])) [.t 29]⟩ (.br (.cons ⟨some 31, none, .call (.c (.fn 45 [])) [.t 27, .t 28, .t 30]⟩ (.br (.cons ⟨none, none, .st 4 (.t 8) (.t 31)⟩ (.done) (.nil))) (.nil))) (.nil))) (.nil))) (.nil))))))) [1, 3, 5, 8]) (.seq (.region [⟨some 32, none, .ld (some 4) (.t 3)⟩, ⟨some 33, none, .call (.c (.fn 26 [])) [.t 32]⟩, ⟨some 9, none, .alloc [.d true (.int .i64 0), .d true (.int .i64 0), .d true (.str ⟨#[]⟩), .nil]⟩, ⟨none, none, .st 4 (.t 9) (.t 33)⟩] [1, 3, 5, 8, 9]) (.seq (.region [⟨some 34, none, .ld (some 4) (.t 5)⟩, ⟨some 35, none, .call (.c (.fn 26 [])) [.t 34]⟩, ⟨some 10, none, .alloc [.d true (.int .i64 0), .d true (.int .i64 0), .d true (.str ⟨#[]⟩), .nil]⟩, ⟨none, none, .st 4 (.t 10) (.t 35)⟩] [1, 3, 5, 8, 9, 10]) (.seq (.region [⟨some 36, none, .ld (some 4) (.t 9)⟩, ⟨some 37, none, .mv (.t 1)⟩, ⟨some 38, none, .ld (some 4) (.t 10)⟩, ⟨some 39, none, .call (.c (.fn 46 [])) [.t 36, .t 37, .t 38]⟩, ⟨some 11, none, .alloc [.d true (.int .i64 0), .d true (.int .i64 0), .d true (.str ⟨#[]⟩), .nil]⟩, ⟨none, none, .st 4 (.t 11) (.t 39)⟩] [1, 3, 5, 8, 9, 10, 11]) (.seq (.seq (.region [⟨some 40, none, .ld (some 4) (.t 11)⟩, ⟨some 41, none, .ld (some 4) (.t 8)⟩, ⟨some 42, none, .call (.c (.fn 28 [])) [.t 40, .t 41]⟩, ⟨some 43, none, .not (.t 42)⟩] [1, 3, 5, 8, 9, 10, 11, 43]) (.cond (.t 43) (.seq (.region [⟨some 6, none, .mv (.c (.d true (.bool false)))⟩] [6]) (.ret)) (.skip))) (.seq (.seq (.tree (.take ⟨some 44, none, .ld (some 4) (.t 9)⟩ (.take ⟨some 45, none, .ld (some 4) (.t 3)⟩ (.br (.cons ⟨some 46, none, .call (.c (.fn 26 [])) [.t 45]⟩ (.br (.cons ⟨some 47, none, .call (.c (.fn 28 [])) [.t 44, .t 46]⟩ (.take ⟨some 48, none, .not (.t 47)⟩ (.done)) (.nil))) (.nil))))) [1, 3, 5, 8, 9, 10, 11, 48]) (.cond (.t 48) (.seq (.region [⟨some 6, none, .mv (.c (.d true (.bool false)))⟩] [6]) (.ret)) (.skip))) (.seq (.seq (.tree (.take ⟨some 49, none, .ld (some 4) (.t 10)⟩ (.take ⟨some 50, none, .ld (some 4) (.t 5)⟩ (.br (.cons ⟨some 51, none, .call (.c (.fn 26 [])) [.t 50]⟩ (.br (.cons ⟨some 52, none, .call (.c (.fn 28 [])) [.t 49, .t 51]⟩ (.take ⟨some 53, none, .not (.t 52)⟩ (.done)) (.nil))) (.nil))))) [1, 3, 5, 8, 9, 10, 11, 53]) (.cond (.t 53) (.seq (.region [⟨some 6, none, .mv (.c (.d true (.bool false)))⟩] [6]) (.ret)) (.skip))) (.seq (.region [⟨some 12, none, .mv (.c (.d true (.int .i64 1)))⟩] [1, 3, 5, 8, 9, 10, 11, 12]) (.seq (.region [⟨some 54, none, .ld (some 4) (.t 9)⟩, ⟨some 55, none, .mv (.t 12)⟩, ⟨some 56, none, .call (.c (.fn 43 [])) [.t 54, .t 55]⟩, ⟨some 12, none, .mv (.t 56)⟩] [1, 3, 5, 8, 10, 11, 12]) (.seq (.region [⟨some 57, none, .ld (some 4) (.t 10)⟩, ⟨some 58, none, .mv (.t 12)⟩, ⟨some 59, none, .call (.c (.fn 43 [])) [.t 57, .t 58]⟩, ⟨some 12, none, .mv (.t 59)⟩] [1, 3, 5, 8, 11, 12]) (.seq (.seq (.region [⟨some 60, none, .mv (.t 12)⟩, ⟨some 61, none, .bin .lss (.t 60) (.c (.d true (.int .i64 0)))⟩, ⟨some 62, none, .mv (.t 61)⟩, ⟨some 63, some (62, false), .ld (some 4) (.t 11)⟩, ⟨some 64, some (62, false), .ld (some 4) (.t 8)⟩, ⟨some 65, some (62, false), .call (.c (.fn 28 [])) [.t 63, .t 64]⟩, ⟨some 66, some (62, false), .not (.t 65)⟩, ⟨some 67, none, .pick (.t 62) (.c (.d true (.bool true))) (.t 66)⟩] [1, 3, 5, 8, 11, 67]) (.cond (.t 67) (.seq (.region [⟨some 6, none, .mv (.c (.d true (.bool false)))⟩] [6]) (.ret)) (.skip))) (.seq (.region [⟨some 13, none, .mv (.c (.d true (.int .i64 1)))⟩] [1, 3, 5, 8, 11, 13]) (.seq (.region [⟨some 68, none, .ld (some 4) (.t 11)⟩, ⟨some 69, none, .mv (.t 13)⟩, ⟨some 70, none, .call (.c (.fn 43 [])) [.t 68, .t 69]⟩, ⟨some 13, none, .mv (.t 70)⟩] [1, 3, 5, 8, 11, 13]) (.seq (.region [⟨some 14, none, .mv (.c (.d true (.int .i64 1)))⟩] [1, 3, 5, 8, 11, 13, 14]) (.seq (.region [⟨some 71, none, .ld (some 4) (.t 11)⟩, ⟨some 72, none, .mv (.t 14)⟩, ⟨some 73, none, .call (.c (.fn 44 [])) [.t 71, .t 72]⟩, ⟨some 14, none, .mv (.t 73)⟩] [1, 3, 5, 8, 11, 13, 14]) (.seq (.seq (.region [⟨some 74, none, .mv (.t 14)⟩, ⟨some 75, none, .bin .lss (.t 74) (.c (.d true (.int .i64 0)))⟩] [1, 3, 5, 8, 11, 13, 14, 75]) (.cond (.t 75) (.seq (.region [⟨some 6, none, .mv (.c (.d true (.bool false)))⟩] [6]) (.ret)) (.skip))) (.seq (.seq (.region [⟨some 76, none, .mv (.t 14)⟩, ⟨some 77, none, .mv (.t 13)⟩, ⟨some 78, none, .bin .neq (.t 76) (.t 77)⟩] [1, 3, 5, 8, 11, 13, 78]) (.cond (.t 78) (.seq (.region [⟨some 6, none, .mv (.c (.d true (.bool false)))⟩] [6]) (.ret)) (.skip))) (.seq (.tree (.take ⟨some 79, none, .ld (some 4) (.t 3)⟩ (.take ⟨some 81, none, .mv (.t 1)⟩ (.take ⟨some 82, none, .ld (some 4) (.t 5)⟩ (.br (.cons ⟨some 80, none, .call (.c (.fn 26 [])) [.t 79]⟩ (.br (.cons ⟨some 83, none, .call (.c (.fn 26 [])) [.t 82]⟩ (.br (.cons ⟨some 84, none, .call (.c (.fn 46 [])) [.t 80, .t 81, .t 83]⟩ (.br (.cons ⟨some 15, none, .alloc [.d true (.int .i64 0), .d true (.int .i64 0), .d true (.str ⟨#[]⟩), .nil]⟩ (.br (.cons ⟨none, none, .st 4 (.t 15) (.t 84)⟩ (.done) (.nil))) (.nil))) (.cons ⟨some 15, none, .alloc [.d true (.int .i64 0), .d true (.int .i64 0), .d true (.str ⟨#[]⟩), .nil]⟩ (.br (.cons ⟨some 84, none, .call (.c (.fn 46 [])) [.t 80, .t 81, .t 83]⟩ (.br (.cons ⟨none, none, .st 4 (.t 15) (.t 84)⟩ (.done) (.nil))) (.nil))) (.nil)))) (.cons ⟨some 15, none, .alloc [.d true (.int .i64 0), .d true (.int .i64 0), .d true (.str ⟨#[]⟩), .nil]⟩ (.br (.cons ⟨some 83, none, .call (.c (.fn 26 [])) [.t 82]⟩ (.br (.cons ⟨some 84, none, .call (.c (.fn 46 [])) [.t 80, .t 81, .t 83]⟩ (.br (.cons ⟨none, none, .st 4 (.t 15) (.t 84)⟩ (.done) (.nil))) (.nil))) (.nil))) (.nil)))) (.cons ⟨some 15, none, .alloc [.d true (.int .i64 0), .d true (.int .i64 0), .d true (.str ⟨#[]⟩), .nil]⟩ (.br (.cons ⟨some 80, none, .call (.c (.fn 26 [])) [.t 79]⟩ (.br (.cons ⟨some 83, none, .call (.c (.fn 26 [])) [.t 82]⟩ (.br (.cons ⟨some 84, none, .call (.c (.fn 46 [])) [.t 80, .t 81, .t 83]⟩ (.br (.cons ⟨none, none, .st 4 (.t 15) (.t 84)⟩ (.done) (.nil))) (.nil))) (.nil))) (.nil))) (.nil))))))) [8, 11, 13, 15]) (.seq (.seq (.region [⟨some 85, none, .ld (some 4) (.t 15)⟩, ⟨some 86, none, .ld (some 4) (.t 8)⟩, ⟨some 87, none, .call (.c (.fn 28 [])) [.t 85, .t 86]⟩, ⟨some 88, none, .not (.t 87)⟩] [11, 13, 88]) (.cond (.t 88) (.seq (.region [⟨some 6, none, .mv (.c (.d true (.bool false)))⟩] [6]) (.ret)) (.skip))) (.seq (.region [⟨some 14, none, .mv (.c (.d true (.int .i64 1)))⟩] [11, 13, 14]) (.seq (.region [⟨some 89, none, .ld (some 4) (.t 11)⟩, ⟨some 90, none, .mv (.t 14)⟩, ⟨some 91, none, .call (.c (.fn 44 [])) [.t 89, .t 90]⟩, ⟨some 14, none, .mv (.t 91)⟩] [13, 14]) (.seq (.seq (.region [⟨some 92, none, .mv (.t 14)⟩, ⟨some 93, none, .bin .lss (.t 92) (.c (.d true (.int .i64 0)))⟩] [13, 14, 93]) (.cond (.t 93) (.seq (.region [⟨some 6, none, .mv (.c (.d true (.bool false)))⟩] [6]) (.ret)) (.skip))) (.seq (.seq (.region [⟨some 94, none, .mv (.t 14)⟩, ⟨some 95, none, .mv (.t 13)⟩, ⟨some 96, none, .bin .neq (.t 94) (.t 95)⟩] [96]) (.cond (.t 96) (.seq (.region [⟨some 6, none, .mv (.c (.d true (.bool false)))⟩] [6]) (.ret)) (.skip))) (.seq (.region [⟨some 6, none, .mv (.c (.d true (.bool true)))⟩] [6]) (.ret))))))))))))))))))))))))))))))
theorem ok11 : FnOk Tryd.prog Tryd.f11 97 keep11 ac11 [.t 6] := by
  refine ⟨?_, ?_, ?_, ?_, ?_⟩ <;> kernel_rfl

/-! laws.FnExactKeyOf -/
def keep12 : Nat → List Nat
  | 0 => [1, 2]
  | 1 => [1, 2, 5]
  | 2 => [1, 2, 5]
  | 3 => [1, 2, 17]
  | 4 => [4]
  | 5 => [1, 2, 6]
  | 6 => [1, 2, 6, 7]
  | 7 => [1, 2, 6, 7, 8]
  | 8 => [1, 2, 6, 7, 8, 30]
  | 9 => [4]
  | 10 => [1, 2, 6, 7, 8, 35]
  | 11 => [4]
  | 12 => [1, 2, 6, 7, 8, 9]
  | 13 => [1, 2, 6, 8, 9]
  | 14 => [1, 2, 6, 8, 46]
  | 15 => [4]
  | 16 => [1, 2, 6, 8, 10]
  | 17 => [1, 2, 6, 8, 10]
  | 18 => [1, 2, 6, 8, 10, 11]
  | 19 => [1, 2, 6, 8, 10, 11]
  | 20 => [1, 2, 6, 8, 10, 11, 54]
  | 21 => [4]
  | 22 => [1, 2, 6, 8, 10, 57]
  | 23 => [4]
  | 24 => [6, 8, 10, 12]
  | 25 => [8, 10, 65]
  | 26 => [4]
  | 27 => [8, 10, 11]
  | 28 => [10, 11]
  | 29 => [10, 11, 70]
  | 30 => [4]
  | 31 => [73]
  | 32 => [4]
  | 33 => [4]
  | 1000010 => [1]
  | _ => []
def ac12 : AC := .seq (.region [⟨some 2, none, .box (.t 0)⟩, ⟨some 4, none, .mv (.c (.d true (.bool false)))⟩] [1, 2]) (.seq (.region [⟨some 5, none, .mv (.c (.d true (.int .i64 1048576)))⟩] [1, 2, 5]) (.seq (.region [⟨some 13, none, .ld (some 4) (.t 2)⟩, ⟨some 14, none, .mv (.t 5)⟩, ⟨some 15, none, .call (.c (.fn 24 [])) [.t 13, .t 14]⟩, ⟨some 5, none, .mv (.t 15)⟩] [1, 2, 5]) (.seq (.seq (.region [⟨some 16, none, .mv (.t 5)⟩, ⟨some 17, none, .bin .lss (.t 16) (.c (.d true (.int .i64 0)))⟩] [1, 2, 17]) (.cond (.t 17) (.seq (.region [⟨some 4, none, .mv (.c (.d true (.bool true)))⟩] [4]) (.ret)) (.skip))) (.seq (.region [⟨some 18, none, .ld (some 4) (.t 2)⟩, ⟨some 19, none, .call (.c (.fn 26 [])) [.t 18]⟩, ⟨some 20, none, .mv (.t 1)⟩, ⟨some 21, none, .call (.c (.fn 47 [])) [.t 19, .t 20]⟩, ⟨some 6, none, .alloc [.d true (.int .i64 0), .d true (.int .i64 0), .d true (.str ⟨#[]⟩), .nil]⟩, ⟨none, none, .st 4 (.t 6) (.t 21)⟩] [1, 2, 6]) (.seq (.region [⟨some 22, none, .ld (some 4) (.t 2)⟩, ⟨some 23, none, .call (.c (.fn 26 [])) [.t 22]⟩, ⟨some 7, none, .alloc [.d true (.int .i64 0), .d true (.int .i64 0), .d true (.str ⟨#[]⟩), .nil]⟩, ⟨none, none, .st 4 (.t 7) (.t 23)⟩] [1, 2, 6, 7]) (.seq (.region [⟨some 24, none, .ld (some 4) (.t 7)⟩, ⟨some 25, none, .mv (.t 1)⟩, ⟨some 26, none, .call (.c (.fn 48 [])) [.t 24, .t 25]⟩, ⟨some 8, none, .alloc [.d true (.int .i64 0), .d true (.int .i64 0), .d true (.str ⟨#[]⟩), .nil]⟩, ⟨none, none, .st 4 (.t 8) (.t 26)⟩] [1, 2, 6, 7, 8]) (.seq (.seq (.region [⟨some 27, none, .ld (some 4) (.t 8)⟩, ⟨some 28, none, .ld (some 4) (.t 6)⟩, ⟨some 29, none, .call (.c (.fn 28 [])) [.t 27, .t 28]⟩, ⟨some 30, none, .not (.t 29)⟩] [1, 2, 6, 7, 8, 30]) (.cond (.t 30) (.seq (.region [⟨some 4, none, .mv (.c (.d true (.bool false)))⟩] [4]) (.ret)) (.skip))) (.seq (.seq (.tree (.take ⟨some 31, none, .ld (some 4) (.t 7)⟩ (.take ⟨some 32, none, .ld (some 4) (.t 2)⟩ (.br (.cons ⟨some 33, none, .call (.c (.fn 26 [])) [.t 32]⟩ (.br (.cons ⟨some 34, none, .call (.c (.fn 28 [])) [.t 31, .t 33]⟩ (.take ⟨some 35, none, .not (.t 34)⟩ (.done)) (.nil))) (.nil))))) [1, 2, 6, 7, 8, 35]) (.cond (.t 35) (.seq (.region [⟨some 4, none, .mv (.c (.d true (.bool false)))⟩] [4]) (.ret)) (.skip))) (.seq (.region [⟨some 9, none, .mv (.c (.d true (.int .i64 1)))⟩] [1, 2, 6, 7, 8, 9]) (.seq (.region [⟨some 36, none, .ld (some 4) (.t 7)⟩, ⟨some 37, none, .mv (.t 9)⟩, ⟨some 38, none, .call (.c (.fn 43 [])) [.t 36, .t 37]⟩, ⟨some 9, none, .mv (.t 38)⟩] [1, 2, 6, 8, 9]) (.seq (.seq (.region [⟨some 39, none, .mv (.t 9)⟩, ⟨some 40, none, .bin .lss (.t 39) (.c (.d true (.int .i64 0)))⟩, ⟨some 41, none, .mv (.t 40)⟩, ⟨some 42, some (41, false), .ld (some 4) (.t 8)⟩, ⟨some 43, some (41, false), .ld (some 4) (.t 6)⟩, ⟨some 44, some (41, false), .call (.c (.fn 28 [])) [.t 42, .t 43]⟩, ⟨some 45, some (41, false), .not (.t 44)⟩, ⟨some 46, none, .pick (.t 41) (.c (.d true (.bool true))) (.t 45)⟩] [1, 2, 6, 8, 46]) (.cond (.t 46) (.seq (.region [⟨some 4, none, .mv (.c (.d true (.bool false)))⟩] [4]) (.ret)) (.skip))) (.seq (.region [⟨some 10, none, .mv (.c (.d true (.int .i64 1)))⟩] [1, 2, 6, 8, 10]) (.seq (.region [⟨some 47, none, .ld (some 4) (.t 8)⟩, ⟨some 48, none, .mv (.t 10)⟩, ⟨some 49, none, .call (.c (.fn 43 [])) [.t 47, .t 48]⟩, ⟨some 10, none, .mv (.t 49)⟩] [1, 2, 6, 8, 10]) (.seq (.region [⟨some 11, none, .mv (.c (.d true (.int .i64 1)))⟩] [1, 2, 6, 8, 10, 11]) (.seq (.region [⟨some 50, none, .ld (some 4) (.t 8)⟩, ⟨some 51, none, .mv (.t 11)⟩, ⟨some 52, none, .call (.c (.fn 44 [])) [.t 50, .t 51]⟩, ⟨some 11, none, .mv (.t 52)⟩] [1, 2, 6, 8, 10, 11]) (.seq (.seq (.region [⟨some 53, none, .mv (.t 11)⟩, ⟨some 54, none, .bin .lss (.t 53) (.c (.d true (.int .i64 0)))⟩] [1, 2, 6, 8, 10, 11, 54]) (.cond (.t 54) (.seq (.region [⟨some 4, none, .mv (.c (.d true (.bool false)))⟩] [4]) (.ret)) (.skip))) (.seq (.seq (.region [⟨some 55, none, .mv (.t 11)⟩, ⟨some 56, none, .mv (.t 10)⟩, ⟨some 57, none, .bin .neq (.t 55) (.t 56)⟩] [1, 2, 6, 8, 10, 57]) (.cond (.t 57) (.seq (.region [⟨some 4, none, .mv (.c (.d true (.bool false)))⟩] [4]) (.ret)) (.skip))) (.seq (.region [⟨some 58, none, .ld (some 4) (.t 2)⟩, ⟨some 59, none, .call (.c (.fn 26 [])) [.t 58]⟩, ⟨some 60, none, .mv (.t 1)⟩, ⟨some 61, none, .call (.c (.fn 48 [])) [.t 59, .t 60]⟩, ⟨some 12, none, .alloc [.d true (.int .i64 0), .d true (.int .i64 0), .d true (.str ⟨#[]⟩), .nil]⟩, ⟨none, none, .st 4 (.t 12) (.t 61)⟩] [6, 8, 10, 12]) (.seq (.seq (.region [⟨some 62, none, .ld (some 4) (.t 12)⟩, ⟨some 63, none, .ld (some 4) (.t 6)⟩, ⟨some 64, none, .call (.c (.fn 28 [])) [.t 62, .t 63]⟩, ⟨some 65, none, .not (.t 64)⟩] [8, 10, 65]) (.cond (.t 65) (.seq (.region [⟨some 4, none, .mv (.c (.d true (.bool false)))⟩] [4]) (.ret)) (.skip))) (.seq (.region [⟨some 11, none, .mv (.c (.d true (.int .i64 1)))⟩] [8, 10, 11]) (.seq (.region [⟨some 66, none, .ld (some 4) (.t 8)⟩, ⟨some 67, none, .mv (.t 11)⟩, ⟨some 68, none, .call (.c (.fn 44 [])) [.t 66, .t 67]⟩, ⟨some 11, none, .mv (.t 68)⟩] [10, 11]) (.seq (.seq (.region [⟨some 69, none, .mv (.t 11)⟩, ⟨some 70, none, .bin .lss (.t 69) (.c (.d true (.int .i64 0)))⟩] [10, 11, 70]) (.cond (.t 70) (.seq (.region [⟨some 4, none, .mv (.c (.d true (.bool false)))⟩] [4]) (.ret)) (.skip))) (.seq (.seq (.region [⟨some 71, none, .mv (.t 11)⟩, ⟨some 72, none, .mv (.t 10)⟩, ⟨some 73, none, .bin .neq (.t 71) (.t 72)⟩] [73]) (.cond (.t 73) (.seq (.region [⟨some 4, none, .mv (.c (.d true (.bool false)))⟩] [4]) (.ret)) (.skip))) (.seq (.region [⟨some 4, none, .mv (.c (.d true (.bool true)))⟩] [4]) (.ret)))))))))))))))))))))))))
theorem ok12 : FnOk Tryd.prog Tryd.f12 74 keep12 ac12 [.t 4] := by
  refine ⟨?_, ?_, ?_, ?_, ?_⟩ <;> kernel_rfl

/-! laws.FnExactDone -/
def keep13 : Nat → List Nat
  | 0 => [1]
  | 1 => [1, 3]
  | 2 => [1, 3]
  | 3 => [1, 15]
  | 4 => [2]
  | 5 => [1, 4]
  | 6 => [1, 4, 5]
  | 7 => [1, 4, 5, 6]
  | 8 => [1, 4, 5, 6, 26]
  | 9 => [2]
  | 10 => [1, 4, 5, 6, 31]
  | 11 => [2]
  | 12 => [1, 4, 5, 6, 7]
  | 13 => [1, 4, 6, 7]
  | 14 => [1, 4, 6, 42]
  | 15 => [2]
  | 16 => [1, 4, 6, 8]
  | 17 => [1, 4, 6, 8]
  | 18 => [1, 4, 6, 8, 9]
  | 19 => [1, 4, 6, 8, 9]
  | 20 => [1, 4, 6, 8, 9, 50]
  | 21 => [2]
  | 22 => [1, 4, 6, 8, 53]
  | 23 => [2]
  | 24 => [4, 6, 8, 10]
  | 25 => [6, 8, 60]
  | 26 => [2]
  | 27 => [6, 8, 9]
  | 28 => [8, 9]
  | 29 => [8, 9, 65]
  | 30 => [2]
  | 31 => [68]
  | 32 => [2]
  | 33 => [2]
  | 1000010 => [1]
  | _ => []
def ac13 : AC := .seq (.region [⟨some 1, none, .box (.t 0)⟩, ⟨some 2, none, .mv (.c (.d true (.bool false)))⟩] [1]) (.seq (.region [⟨some 3, none, .mv (.c (.d true (.int .i64 1048576)))⟩] [1, 3]) (.seq (.region [⟨some 11, none, .ld (some 4) (.t 1)⟩, ⟨some 12, none, .mv (.t 3)⟩, ⟨some 13, none, .call (.c (.fn 24 [])) [.t 11, .t 12]⟩, ⟨some 3, none, .mv (.t 13)⟩] [1, 3]) (.seq (.seq (.region [⟨some 14, none, .mv (.t 3)⟩, ⟨some 15, none, .bin .lss (.t 14) (.c (.d true (.int .i64 0)))⟩] [1, 15]) (.cond (.t 15) (.seq (.region [⟨some 2, none, .mv (.c (.d true (.bool true)))⟩] [2]) (.ret)) (.skip))) (.seq (.region [⟨some 16, none, .ld (some 4) (.t 1)⟩, ⟨some 17, none, .call (.c (.fn 26 [])) [.t 16]⟩, ⟨some 18, none, .call (.c (.fn 49 [])) [.t 17]⟩, ⟨some 4, none, .alloc [.d true (.int .i64 0), .d true (.int .i64 0), .d true (.str ⟨#[]⟩), .nil]⟩, ⟨none, none, .st 4 (.t 4) (.t 18)⟩] [1, 4]) (.seq (.region [⟨some 19, none, .ld (some 4) (.t 1)⟩, ⟨some 20, none, .call (.c (.fn 26 [])) [.t 19]⟩, ⟨some 5, none, .alloc [.d true (.int .i64 0), .d true (.int .i64 0), .d true (.str ⟨#[]⟩), .nil]⟩, ⟨none, none, .st 4 (.t 5) (.t 20)⟩] [1, 4, 5]) (.seq (.region [⟨some 21, none, .ld (some 4) (.t 5)⟩, ⟨some 22, none, .call (.c (.fn 50 [])) [.t 21]⟩, ⟨some 6, none, .alloc [.d true (.int .i64 0), .d true (.int .i64 0), .d true (.str ⟨#[]⟩), .nil]⟩, ⟨none, none, .st 4 (.t 6) (.t 22)⟩] [1, 4, 5, 6]) (.seq (.seq (.region [⟨some 23, none, .ld (some 4) (.t 6)⟩, ⟨some 24, none, .ld (some 4) (.t 4)⟩, ⟨some 25, none, .call (.c (.fn 28 [])) [.t 23, .t 24]⟩, ⟨some 26, none, .not (.t 25)⟩] [1, 4, 5, 6, 26]) (.cond (.t 26) (.seq (.region [⟨some 2, none, .mv (.c (.d true (.bool false)))⟩] [2]) (.ret)) (.skip))) (.seq (.seq (.tree (.take ⟨some 27, none, .ld (some 4) (.t 5)⟩ (.take ⟨some 28, none, .ld (some 4) (.t 1)⟩ (.br (.cons ⟨some 29, none, .call (.c (.fn 26 [])) [.t 28]⟩ (.br (.cons ⟨some 30, none, .call (.c (.fn 28 [])) [.t 27, .t 29]⟩ (.take ⟨some 31, none, .not (.t 30)⟩ (.done)) (.nil))) (.nil))))) [1, 4, 5, 6, 31]) (.cond (.t 31) (.seq (.region [⟨some 2, none, .mv (.c (.d true (.bool false)))⟩] [2]) (.ret)) (.skip))) (.seq (.region [⟨some 7, none, .mv (.c (.d true (.int .i64 1)))⟩] [1, 4, 5, 6, 7]) (.seq (.region [⟨some 32, none, .ld (some 4) (.t 5)⟩, ⟨some 33, none, .mv (.t 7)⟩, ⟨some 34, none, .call (.c (.fn 43 [])) [.t 32, .t 33]⟩, ⟨some 7, none, .mv (.t 34)⟩] [1, 4, 6, 7]) (.seq (.seq (.region [⟨some 35, none, .mv (.t 7)⟩, ⟨some 36, none, .bin .lss (.t 35) (.c (.d true (.int .i64 0)))⟩, ⟨some 37, none, .mv (.t 36)⟩, ⟨some 38, some (37, false), .ld (some 4) (.t 6)⟩, ⟨some 39, some (37, false), .ld (some 4) (.t 4)⟩, ⟨some 40, some (37, false), .call (.c (.fn 28 [])) [.t 38, .t 39]⟩, ⟨some 41, some (37, false), .not (.t 40)⟩, ⟨some 42, none, .pick (.t 37) (.c (.d true (.bool true))) (.t 41)⟩] [1, 4, 6, 42]) (.cond (.t 42) (.seq (.region [⟨some 2, none, .mv (.c (.d true (.bool false)))⟩] [2]) (.ret)) (.skip))) (.seq (.region [⟨some 8, none, .mv (.c (.d true (.int .i64 1)))⟩] [1, 4, 6, 8]) (.seq (.region [⟨some 43, none, .ld (some 4) (.t 6)⟩, ⟨some 44, none, .mv (.t 8)⟩, ⟨some 45, none, .call (.c (.fn 43 [])) [.t 43, .t 44]⟩, ⟨some 8, none, .mv (.t 45)⟩] [1, 4, 6, 8]) (.seq (.region [⟨some 9, none, .mv (.c (.d true (.int .i64 1)))⟩] [1, 4, 6, 8, 9]) (.seq (.region [⟨some 46, none, .ld (some 4) (.t 6)⟩, ⟨some 47, none, .mv (.t 9)⟩, ⟨some 48, none, .call (.c (.fn 44 [])) [.t 46, .t 47]⟩, ⟨some 9, none, .mv (.t 48)⟩] [1, 4, 6, 8, 9]) (.seq (.seq (.region [⟨some 49, none, .mv (.t 9)⟩, ⟨some 50, none, .bin .lss (.t 49) (.c (.d true (.int .i64 0)))⟩] [1, 4, 6, 8, 9, 50]) (.cond (.t 50) (.seq (.region [⟨some 2, none, .mv (.c (.d true (.bool false)))⟩] [2]) (.ret)) (.skip))) (.seq (.seq (.region [⟨some 51, none, .mv (.t 9)⟩, ⟨some 52, none, .mv (.t 8)⟩, ⟨some 53, none, .bin .neq (.t 51) (.t 52)⟩] [1, 4, 6, 8, 53]) (.cond (.t 53) (.seq (.region [⟨some 2, none, .mv (.c (.d true (.bool false)))⟩] [2]) (.ret)) (.skip))) (.seq (.region [⟨some 54, none, .ld (some 4) (.t 1)⟩, ⟨some 55, none, .call (.c (.fn 26 [])) [.t 54]⟩, ⟨some 56, none, .call (.c (.fn 50 [])) [.t 55]⟩, ⟨some 10, none, .alloc [.d true (.int .i64 0), .d true (.int .i64 0), .d true (.str ⟨#[]⟩), .nil]⟩, ⟨none, none, .st 4 (.t 10) (.t 56)⟩] [4, 6, 8, 10]) (.seq (.seq (.region [⟨some 57, none, .ld (some 4) (.t 10)⟩, ⟨some 58, none, .ld (some 4) (.t 4)⟩, ⟨some 59, none, .call (.c (.fn 28 [])) [.t 57, .t 58]⟩, ⟨some 60, none, .not (.t 59)⟩] [6, 8, 60]) (.cond (.t 60) (.seq (.region [⟨some 2, none, .mv (.c (.d true (.bool false)))⟩] [2]) (.ret)) (.skip))) (.seq (.region [⟨some 9, none, .mv (.c (.d true (.int .i64 1)))⟩] [6, 8, 9]) (.seq (.region [⟨some 61, none, .ld (some 4) (.t 6)⟩, ⟨some 62, none, .mv (.t 9)⟩, ⟨some 63, none, .call (.c (.fn 44 [])) [.t 61, .t 62]⟩, ⟨some 9, none, .mv (.t 63)⟩] [8, 9]) (.seq (.seq (.region [⟨some 64, none, .mv (.t 9)⟩, ⟨some 65, none, .bin .lss (.t 64) (.c (.d true (.int .i64 0)))⟩] [8, 9, 65]) (.cond (.t 65) (.seq (.region [⟨some 2, none, .mv (.c (.d true (.bool false)))⟩] [2]) (.ret)) (.skip))) (.seq (.seq (.region [⟨some 66, none, .mv (.t 9)⟩, ⟨some 67, none, .mv (.t 8)⟩, ⟨some 68, none, .bin .neq (.t 66) (.t 67)⟩] [68]) (.cond (.t 68) (.seq (.region [⟨some 2, none, .mv (.c (.d true (.bool false)))⟩] [2]) (.ret)) (.skip))) (.seq (.region [⟨some 2, none, .mv (.c (.d true (.bool true)))⟩] [2]) (.ret)))))))))))))))))))))))))
theorem ok13 : FnOk Tryd.prog Tryd.f13 69 keep13 ac13 [.t 2] := by
  refine ⟨?_, ?_, ?_, ?_, ?_⟩ <;> kernel_rfl

/-! laws.FnExactReply -/
def keep14 : Nat → List Nat
  | 0 => [4, 5, 6, 7]
  | 1 => [4, 5, 6, 7, 9]
  | 2 => [4, 5, 6, 7, 9]
  | 3 => [4, 5, 6, 7, 9, 27]
  | 4 => [8]
  | 5 => [4, 5, 6, 7, 9]
  | 6 => [4, 5, 6, 7, 9, 32]
  | 7 => [8]
  | 8 => [4, 5, 6, 7, 9]
  | 9 => [4, 5, 6, 7, 9, 37]
  | 10 => [8]
  | 11 => [4, 5, 6, 7, 9]
  | 12 => [4, 5, 6, 7, 42]
  | 13 => [8]
  | 14 => [4, 5, 6, 7, 10, 11]
  | 15 => [4, 5, 6, 7, 10, 11, 12]
  | 16 => [4, 5, 6, 7, 10, 11, 12, 13]
  | 17 => [4, 5, 6, 7, 10, 11, 12, 13, 14]
  | 18 => [4, 5, 6, 7, 10, 11, 12, 13, 14, 15]
  | 19 => [4, 5, 6, 7, 10, 11, 12, 13, 14, 15, 16, 17]
  | 20 => [4, 5, 6, 7, 10, 11, 12, 13, 14, 15, 16, 17, 79]
  | 21 => [8]
  | 22 => [4, 5, 6, 7, 10, 11, 12, 13, 14, 15, 16, 17, 84]
  | 23 => [8]
  | 24 => [4, 5, 6, 7, 10, 11, 12, 13, 14, 15, 16, 17, 89]
  | 25 => [8]
  | 26 => [4, 5, 6, 7, 10, 11, 12, 13, 14, 15, 16, 17, 94]
  | 27 => [8]
  | 28 => [4, 5, 6, 7, 10, 11, 12, 13, 14, 15, 16, 17, 99]
  | 29 => [8]
  | 30 => [4, 5, 6, 7, 10, 11, 12, 13, 14, 15, 16, 17, 18]
  | 31 => [4, 5, 6, 7, 10, 11, 13, 14, 15, 16, 17, 18]
  | 32 => [4, 5, 6, 7, 10, 11, 14, 15, 16, 17, 18]
  | 33 => [4, 5, 6, 7, 10, 11, 15, 16, 17, 18]
  | 34 => [4, 5, 6, 7, 10, 11, 16, 17, 18]
  | 35 => [4, 5, 6, 7, 10, 11, 16, 124]
  | 36 => [8]
  | 37 => [4, 5, 6, 7, 10, 11, 16, 19]
  | 38 => [4, 5, 6, 7, 10, 11, 16, 19]
  | 39 => [4, 5, 6, 7, 10, 11, 16, 19, 20]
  | 40 => [4, 5, 6, 7, 10, 11, 16, 19, 20]
  | 41 => [4, 5, 6, 7, 10, 11, 16, 19, 20, 132]
  | 42 => [8]
  | 43 => [4, 5, 6, 7, 10, 11, 16, 19, 135]
  | 44 => [8]
  | 45 => [10, 11, 16, 19, 21, 22]
  | 46 => [16, 19, 156]
  | 47 => [8]
  | 48 => [16, 19, 20]
  | 49 => [19, 20]
  | 50 => [19, 20, 161]
  | 51 => [8]
  | 52 => [164]
  | 53 => [8]
  | 54 => [8]
  | 1000014 => [1]
  | 1000022 => [1]
  | 1000024 => [1]
  | 1000026 => [1]
  | 1000028 => [1]
  | 1000045 => [1]
  | _ => []
def ac14 : AC := .seq (.region [⟨some 4, none, .box (.t 0)⟩, ⟨some 5, none, .box (.t 1)⟩, ⟨some 6, none, .box (.t 2)⟩, ⟨some 7, none, .box (.t 3)⟩, ⟨some 8, none, .mv (.c (.d true (.bool false)))⟩] [4, 5, 6, 7]) (.seq (.region [⟨some 9, none, .mv (.c (.d true (.int .i64 1048576)))⟩] [4, 5, 6, 7, 9]) (.seq (.region [⟨some 23, none, .ld (some 4) (.t 4)⟩, ⟨some 24, none, .mv (.t 9)⟩, ⟨some 25, none, .call (.c (.fn 24 [])) [.t 23, .t 24]⟩, ⟨some 9, none, .mv (.t 25)⟩] [4, 5, 6, 7, 9]) (.seq (.seq (.region [⟨some 26, none, .mv (.t 9)⟩, ⟨some 27, none, .bin .lss (.t 26) (.c (.d true (.int .i64 0)))⟩] [4, 5, 6, 7, 9, 27]) (.cond (.t 27) (.seq (.region [⟨some 8, none, .mv (.c (.d true (.bool true)))⟩] [8]) (.ret)) (.skip))) (.seq (.region [⟨some 28, none, .ld (some 4) (.t 5)⟩, ⟨some 29, none, .mv (.t 9)⟩, ⟨some 30, none, .call (.c (.fn 24 [])) [.t 28, .t 29]⟩, ⟨some 9, none, .mv (.t 30)⟩] [4, 5, 6, 7, 9]) (.seq (.seq (.region [⟨some 31, none, .mv (.t 9)⟩, ⟨some 32, none, .bin .lss (.t 31) (.c (.d true (.int .i64 0)))⟩] [4, 5, 6, 7, 9, 32]) (.cond (.t 32) (.seq (.region [⟨some 8, none, .mv (.c (.d true (.bool true)))⟩] [8]) (.ret)) (.skip))) (.seq (.region [⟨some 33, none, .ld (some 4) (.t 6)⟩, ⟨some 34, none, .mv (.t 9)⟩, ⟨some 35, none, .call (.c (.fn 24 [])) [.t 33, .t 34]⟩, ⟨some 9, none, .mv (.t 35)⟩] [4, 5, 6, 7, 9]) (.seq (.seq (.region [⟨some 36, none, .mv (.t 9)⟩, ⟨some 37, none, .bin .lss (.t 36) (.c (.d true (.int .i64 0)))⟩] [4, 5, 6, 7, 9, 37]) (.cond (.t 37) (.seq (.region [⟨some 8, none, .mv (.c (.d true (.bool true)))⟩] [8]) (.ret)) (.skip))) (.seq (.region [⟨some 38, none, .ld (some 4) (.t 7)⟩, ⟨some 39, none, .mv (.t 9)⟩, ⟨some 40, none, .call (.c (.fn 24 [])) [.t 38, .t 39]⟩, ⟨some 9, none, .mv (.t 40)⟩] [4, 5, 6, 7, 9]) (.seq (.seq (.region [⟨some 41, none, .mv (.t 9)⟩, ⟨some 42, none, .bin .lss (.t 41) (.c (.d true (.int .i64 0)))⟩] [4, 5, 6, 7, 42]) (.cond (.t 42) (.seq (.region [⟨some 8, none, .mv (.c (.d true (.bool true)))⟩] [8]) (.ret)) (.skip))) (.seq (.tree (.take ⟨some 44, none, .ld (some 4) (.t 4)⟩ (.take ⟨some 46, none, .ld (some 4) (.t 5)⟩ (.take ⟨some 48, none, .ld (some 4) (.t 6)⟩ (.take ⟨some 50, none, .ld (some 4) (.t 7)⟩ (.br (.cons ⟨some 45, none, .call (.c (.fn 26 [])) [.t 44]⟩ (.br (.cons ⟨some 47, none, .call (.c (.fn 26 [])) [.t 46]⟩ (.br (.cons ⟨some 49, none, .call (.c (.fn 26 [])) [.t 48]⟩ (.br (.cons ⟨some 51, none, .call (.c (.fn 26 [])) [.t 50]⟩ (.br (.cons ⟨some 52, none, .call (.c (.fn 51 [])) [.t 45, .t 47, .t 49, .t 51]⟩ (.take ⟨some 43, none, .mv (.t 52)⟩ (.take ⟨some 53, none, .ext (.t 43) 0⟩ (.take ⟨some 54, none, .ext (.t 43) 1⟩ (.br (.cons ⟨some 10, none, .alloc [.d true (.int .i64 0), .d true (.int .i64 0), .d true (.str ⟨#[]⟩), .nil]⟩ (.br (.cons ⟨none, none, .st 4 (.t 10) (.t 53)⟩ (.take ⟨some 11, none, .mv (.t 54)⟩ (.done)) (.nil))) (.nil)))))) (.cons ⟨some 10, none, .alloc [.d true (.int .i64 0), .d true (.int .i64 0), .d true (.str ⟨#[]⟩), .nil]⟩ (.br (.cons ⟨some 52, none, .call (.c (.fn 51 [])) [.t 45, .t 47, .t 49, .t 51]⟩ (.take ⟨some 43, none, .mv (.t 52)⟩ (.take ⟨some 53, none, .ext (.t 43) 0⟩ (.take ⟨some 54, none, .ext (.t 43) 1⟩ (.br (.cons ⟨none, none, .st 4 (.t 10) (.t 53)⟩ (.take ⟨some 11, none, .mv (.t 54)⟩ (.done)) (.nil)))))) (.nil))) (.nil)))) (.cons ⟨some 10, none, .alloc [.d true (.int .i64 0), .d true (.int .i64 0), .d true (.str ⟨#[]⟩), .nil]⟩ (.br (.cons ⟨some 51, none, .call (.c (.fn 26 [])) [.t 50]⟩ (.br (.cons ⟨some 52, none, .call (.c (.fn 51 [])) [.t 45, .t 47, .t 49, .t 51]⟩ (.take ⟨some 43, none, .mv (.t 52)⟩ (.take ⟨some 53, none, .ext (.t 43) 0⟩ (.take ⟨some 54, none, .ext (.t 43) 1⟩ (.br (.cons ⟨none, none, .st 4 (.t 10) (.t 53)⟩ (.take ⟨some 11, none, .mv (.t 54)⟩ (.done)) (.nil)))))) (.nil))) (.nil))) (.nil)))) (.cons ⟨some 10, none, .alloc [.d true (.int .i64 0), .d true (.int .i64 0), .d true (.str ⟨#[]⟩), .nil]⟩ (.br (.cons ⟨some 49, none, .call (.c (.fn 26 [])) [.t 48]⟩ (.br (.cons ⟨some 51, none, .call (.c (.fn 26 [])) [.t 50]⟩ (.br (.cons ⟨some 52, none, .call (.c (.fn 51 [])) [.t 45, .t 47, .t 49, .t 51]⟩ (.take ⟨some 43, none, .mv (.t 52)⟩ (.take ⟨some 53, none, .ext (.t 43) 0⟩ (.take ⟨some 54, none, .ext (.t 43) 1⟩ (.br (.cons ⟨none, none, .st 4 (.t 10) (.t 53)⟩ (.take ⟨some 11, none, .mv (.t 54)⟩ (.done)) (.nil)))))) (.nil))) (.nil))) (.nil))) (.nil)))) (.cons ⟨some 10, none, .alloc [.d true (.int .i64 0), .d true (.int .i64 0), .d true (.str ⟨#[]⟩), .nil]⟩ (.br (.cons ⟨some 47, none, .call (.c (.fn 26 [])) [.t 46]⟩ (.br (.cons ⟨some 49, none, .call (.c (.fn 26 [])) [.t 48]⟩ (.br (.cons ⟨some 51, none, .call (.c (.fn 26 [])) [.t 50]⟩ (.br (.cons ⟨some 52, none, .call (.c (.fn 51 [])) [.t 45, .t 47, .t 49, .t 51]⟩ (.take ⟨some 43, none, .mv (.t 52)⟩ (.take ⟨some 53, none, .ext (.t 43) 0⟩ (.take ⟨some 54, none, .ext (.t 43) 1⟩ (.br (.cons ⟨none, none, .st 4 (.t 10) (.t 53)⟩ (.take ⟨some 11, none, .mv (.t 54)⟩ (.done)) (.nil)))))) (.nil))) (.nil))) (.nil))) (.nil))) (.nil)))) (.cons ⟨some 10, none, .alloc [.d true (.int .i64 0), .d true (.int .i64 0), .d true (.str ⟨#[]⟩), .nil]⟩ (.br (.cons ⟨some 45, none, .call (.c (.fn 26 [])) [.t 44]⟩ (.br (.cons ⟨some 47, none, .call (.c (.fn 26 [])) [.t 46]⟩ (.br (.cons ⟨some 49, none, .call (.c (.fn 26 [])) [.t 48]⟩ (.br (.cons ⟨some 51, none, .call (.c (.fn 26 [])) [.t 50]⟩ (.br (.cons ⟨some 52, none, .call (.c (.fn 51 [])) [.t 45, .t 47, .t 49, .t 51]⟩ (.take ⟨some 43, none, .mv (.t 52)⟩ (.take ⟨some 53, none, .ext (.t 43) 0⟩ (.take ⟨some 54, none, .ext (.t 43) 1⟩ (.br (.cons ⟨none, none, .st 4 (.t 10) (.t 53)⟩ (.take ⟨some 11, none, .mv (.t 54)⟩ (.done)) (.nil)))))) (.nil))) (.nil))) (.nil))) (.nil))) (.nil))) (.nil)))))))) [4, 5, 6, 7, 10, 11]) (.seq (.region [⟨some 55, none, .ld (some 4) (.t 4)⟩, ⟨some 56, none, .call (.c (.fn 26 [])) [.t 55]⟩, ⟨some 12, none, .alloc [.d true (.int .i64 0), .d true (.int .i64 0), .d true (.str ⟨#[]⟩), .nil]⟩, ⟨none, none, .st 4 (.t 12) (.t 56)⟩] [4, 5, 6, 7, 10, 11, 12]) (.seq (.region [⟨some 57, none, .ld (some 4) (.t 5)⟩, ⟨some 58, none, .call (.c (.fn 26 [])) [.t 57]⟩, ⟨some 13, none, .alloc [.d true (.int .i64 0), .d true (.int .i64 0), .d true (.str ⟨#[]⟩), .nil]⟩, ⟨none, none, .st 4 (.t 13) (.t 58)⟩] [4, 5, 6, 7, 10, 11, 12, 13]) (.seq (.region [⟨some 59, none, .ld (some 4) (.t 6)⟩, ⟨some 60, none, .call (.c (.fn 26 [])) [.t 59]⟩, ⟨some 14, none, .alloc [.d true (.int .i64 0), .d true (.int .i64 0), .d true (.str ⟨#[]⟩), .nil]⟩, ⟨none, none, .st 4 (.t 14) (.t 60)⟩] [4, 5, 6, 7, 10, 11, 12, 13, 14]) (.seq (.region [⟨some 61, none, .ld (some 4) (.t 7)⟩, ⟨some 62, none, .call (.c (.fn 26 [])) [.t 61]⟩, ⟨some 15, none, .alloc [.d true (.int .i64 0), .d true (.int .i64 0), .d true (.str ⟨#[]⟩), .nil]⟩, ⟨none, none, .st 4 (.t 15) (.t 62)⟩] [4, 5, 6, 7, 10, 11, 12, 13, 14, 15]) (.seq (.region [⟨some 64, none, .ld (some 4) (.t 12)⟩, ⟨some 65, none, .ld (some 4) (.t 13)⟩, ⟨some 66, none, .ld (some 4) (.t 14)⟩, ⟨some 67, none, .ld (some 4) (.t 15)⟩, ⟨some 68, none, .call (.c (.fn 52 [])) [.t 64, .t 65, .t 66, .t 67]⟩, ⟨some 63, none, .mv (.t 68)⟩, ⟨some 69, none, .ext (.t 63) 0⟩, ⟨some 70, none, .ext (.t 63) 1⟩, ⟨some 16, none, .alloc [.d true (.int .i64 0), .d true (.int .i64 0), .d true (.str ⟨#[]⟩), .nil]⟩, ⟨none, none, .st 4 (.t 16) (.t 69)⟩, ⟨some 17, none, .mv (.t 70)⟩] [4, 5, 6, 7, 10, 11, 12, 13, 14, 15, 16, 17]) (.seq (.seq (.region [⟨some 71, none, .ld (some 4) (.t 16)⟩, ⟨some 72, none, .ld (some 4) (.t 10)⟩, ⟨some 73, none, .call (.c (.fn 28 [])) [.t 71, .t 72]⟩, ⟨some 74, none, .not (.t 73)⟩, ⟨some 75, none, .mv (.t 74)⟩, ⟨some 76, some (75, false), .mv (.t 17)⟩, ⟨some 77, some (75, false), .mv (.t 11)⟩, ⟨some 78, some (75, false), .beq true (.t 76) (.t 77)⟩, ⟨some 79, none, .pick (.t 75) (.c (.d true (.bool true))) (.t 78)⟩] [4, 5, 6, 7, 10, 11, 12, 13, 14, 15, 16, 17, 79]) (.cond (.t 79) (.seq (.region [⟨some 8, none, .mv (.c (.d true (.bool false)))⟩] [8]) (.ret)) (.skip))) (.seq (.seq (.tree (.take ⟨some 80, none, .ld (some 4) (.t 12)⟩ (.take ⟨some 81, none, .ld (some 4) (.t 4)⟩ (.br (.cons ⟨some 82, none, .call (.c (.fn 26 [])) [.t 81]⟩ (.br (.cons ⟨some 83, none, .call (.c (.fn 28 [])) [.t 80, .t 82]⟩ (.take ⟨some 84, none, .not (.t 83)⟩ (.done)) (.nil))) (.nil))))) [4, 5, 6, 7, 10, 11, 12, 13, 14, 15, 16, 17, 84]) (.cond (.t 84) (.seq (.region [⟨some 8, none, .mv (.c (.d true (.bool false)))⟩] [8]) (.ret)) (.skip))) (.seq (.seq (.tree (.take ⟨some 85, none, .ld (some 4) (.t 13)⟩ (.take ⟨some 86, none, .ld (some 4) (.t 5)⟩ (.br (.cons ⟨some 87, none, .call (.c (.fn 26 [])) [.t 86]⟩ (.br (.cons ⟨some 88, none, .call (.c (.fn 28 [])) [.t 85, .t 87]⟩ (.take ⟨some 89, none, .not (.t 88)⟩ (.done)) (.nil))) (.nil))))) [4, 5, 6, 7, 10, 11, 12, 13, 14, 15, 16, 17, 89]) (.cond (.t 89) (.seq (.region [⟨some 8, none, .mv (.c (.d true (.bool false)))⟩] [8]) (.ret)) (.skip))) (.seq (.seq (.tree (.take ⟨some 90, none, .ld (some 4) (.t 14)⟩ (.take ⟨some 91, none, .ld (some 4) (.t 6)⟩ (.br (.cons ⟨some 92, none, .call (.c (.fn 26 [])) [.t 91]⟩ (.br (.cons ⟨some 93, none, .call (.c (.fn 28 [])) [.t 90, .t 92]⟩ (.take ⟨some 94, none, .not (.t 93)⟩ (.done)) (.nil))) (.nil))))) [4, 5, 6, 7, 10, 11, 12, 13, 14, 15, 16, 17, 94]) (.cond (.t 94) (.seq (.region [⟨some 8, none, .mv (.c (.d true (.bool false)))⟩] [8]) (.ret)) (.skip))) (.seq (.seq (.tree (.take ⟨some 95, none, .ld (some 4) (.t 15)⟩ (.take ⟨some 96, none, .ld (some 4) (.t 7)⟩ (.br (.cons ⟨some 97, none, .call (.c (.fn 26 [])) [.t 96]⟩ (.br (.cons ⟨some 98, none, .call (.c (.fn 28 [])) [.t 95, .t 97]⟩ (.take ⟨some 99, none, .not (.t 98)⟩ (.done)) (.nil))) (.nil))))) [4, 5, 6, 7, 10, 11, 12, 13, 14, 15, 16, 17, 99]) (.cond (.t 99) (.seq (.region [⟨some 8, none, .mv (.c (.d true (.bool false)))⟩] [8]) (.ret)) (.skip))) (.seq (.region [⟨some 18, none, .mv (.c (.d true (.int .i64 1)))⟩] [4, 5, 6, 7, 10, 11, 12, 13, 14, 15, 16, 17, 18]) (.seq (.region [⟨some 100, none, .ld (some 4) (.t 12)⟩, ⟨some 101, none, .mv (.t 18)⟩, ⟨some 102, none, .call (.c (.fn 43 [])) [.t 100, .t 101]⟩, ⟨some 18, none, .mv (.t 102)⟩] [4, 5, 6, 7, 10, 11, 13, 14, 15, 16, 17, 18]) (.seq (.region [⟨some 103, none, .ld (some 4) (.t 13)⟩, ⟨some 104, none, .mv (.t 18)⟩, ⟨some 105, none, .call (.c (.fn 43 [])) [.t 103, .t 104]⟩, ⟨some 18, none, .mv (.t 105)⟩] [4, 5, 6, 7, 10, 11, 14, 15, 16, 17, 18]) (.seq (.region [⟨some 106, none, .ld (some 4) (.t 14)⟩, ⟨some 107, none, .mv (.t 18)⟩, ⟨some 108, none, .call (.c (.fn 43 [])) [.t 106, .t 107]⟩, ⟨some 18, none, .mv (.t 108)⟩] [4, 5, 6, 7, 10, 11, 15, 16, 17, 18]) (.seq (.region [⟨some 109, none, .ld (some 4) (.t 15)⟩, ⟨some 110, none, .mv (.t 18)⟩, ⟨some 111, none, .call (.c (.fn 43 [])) [.t 109, .t 110]⟩, ⟨some 18, none, .mv (.t 111)⟩] [4, 5, 6, 7, 10, 11, 16, 17, 18]) (.seq (.seq (.region [⟨some 112, none, .mv (.t 18)⟩, ⟨some 113, none, .bin .lss (.t 112) (.c (.d true (.int .i64 0)))⟩, ⟨some 114, none, .mv (.t 113)⟩, ⟨some 115, some (114, false), .ld (some 4) (.t 16)⟩, ⟨some 116, some (114, false), .ld (some 4) (.t 10)⟩, ⟨some 117, some (114, false), .call (.c (.fn 28 [])) [.t 115, .t 116]⟩, ⟨some 118, some (114, false), .not (.t 117)⟩, ⟨some 119, none, .pick (.t 114) (.c (.d true (.bool true))) (.t 118)⟩, ⟨some 120, none, .mv (.t 119)⟩, ⟨some 121, some (120, false), .mv (.t 17)⟩, ⟨some 122, some (120, false), .mv (.t 11)⟩, ⟨some 123, some (120, false), .beq true (.t 121) (.t 122)⟩, ⟨some 124, none, .pick (.t 120) (.c (.d true (.bool true))) (.t 123)⟩] [4, 5, 6, 7, 10, 11, 16, 124]) (.cond (.t 124) (.seq (.region [⟨some 8, none, .mv (.c (.d true (.bool false)))⟩] [8]) (.ret)) (.skip))) (.seq (.region [⟨some 19, none, .mv (.c (.d true (.int .i64 1)))⟩] [4, 5, 6, 7, 10, 11, 16, 19]) (.seq (.region [⟨some 125, none, .ld (some 4) (.t 16)⟩, ⟨some 126, none, .mv (.t 19)⟩, ⟨some 127, none, .call (.c (.fn 43 [])) [.t 125, .t 126]⟩, ⟨some 19, none, .mv (.t 127)⟩] [4, 5, 6, 7, 10, 11, 16, 19]) (.seq (.region [⟨some 20, none, .mv (.c (.d true (.int .i64 1)))⟩] [4, 5, 6, 7, 10, 11, 16, 19, 20]) (.seq (.region [⟨some 128, none, .ld (some 4) (.t 16)⟩, ⟨some 129, none, .mv (.t 20)⟩, ⟨some 130, none, .call (.c (.fn 44 [])) [.t 128, .t 129]⟩, ⟨some 20, none, .mv (.t 130)⟩] [4, 5, 6, 7, 10, 11, 16, 19, 20]) (.seq (.seq (.region [⟨some 131, none, .mv (.t 20)⟩, ⟨some 132, none, .bin .lss (.t 131) (.c (.d true (.int .i64 0)))⟩] [4, 5, 6, 7, 10, 11, 16, 19, 20, 132]) (.cond (.t 132) (.seq (.region [⟨some 8, none, .mv (.c (.d true (.bool false)))⟩] [8]) (.ret)) (.skip))) (.seq (.seq (.region [⟨some 133, none, .mv (.t 20)⟩, ⟨some 134, none, .mv (.t 19)⟩, ⟨some 135, none, .bin .neq (.t 133) (.t 134)⟩] [4, 5, 6, 7, 10, 11, 16, 19, 135]) (.cond (.t 135) (.seq (.region [⟨some 8, none, .mv (.c (.d true (.bool false)))⟩] [8]) (.ret)) (.skip))) (.seq (.tree (.take ⟨some 137, none, .ld (some 4) (.t 4)⟩ (.take ⟨some 139, none, .ld (some 4) (.t 5)⟩ (.take ⟨some 141, none, .ld (some 4) (.t 6)⟩ (.take ⟨some 143, none, .ld (some 4) (.t 7)⟩ (.br (.cons ⟨some 138, none, .call (.c (.fn 26 [])) [.t 137]⟩ (.br (.cons ⟨some 140, none, .call (.c (.fn 26 [])) [.t 139]⟩ (.br (.cons ⟨some 142, none, .call (.c (.fn 26 [])) [.t 141]⟩ (.br (.cons ⟨some 144, none, .call (.c (.fn 26 [])) [.t 143]⟩ (.br (.cons ⟨some 145, none, .call (.c (.fn 52 [])) [.t 138, .t 140, .t 142, .t 144]⟩ (.take ⟨some 136, none, .mv (.t 145)⟩ (.take ⟨some 146, none, .ext (.t 136) 0⟩ (.take ⟨some 147, none, .ext (.t 136) 1⟩ (.br (.cons ⟨some 21, none, .alloc [.d true (.int .i64 0), .d true (.int .i64 0), .d true (.str ⟨#[]⟩), .nil]⟩ (.br (.cons ⟨none, none, .st 4 (.t 21) (.t 146)⟩ (.take ⟨some 22, none, .mv (.t 147)⟩ (.done)) (.nil))) (.nil)))))) (.cons ⟨some 21, none, .alloc [.d true (.int .i64 0), .d true (.int .i64 0), .d true (.str ⟨#[]⟩), .nil]⟩ (.br (.cons ⟨some 145, none, .call (.c (.fn 52 [])) [.t 138, .t 140, .t 142, .t 144]⟩ (.take ⟨some 136, none, .mv (.t 145)⟩ (.take ⟨some 146, none, .ext (.t 136) 0⟩ (.take ⟨some 147, none, .ext (.t 136) 1⟩ (.br (.cons ⟨none, none, .st 4 (.t 21) (.t 146)⟩ (.take ⟨some 22, none, .mv (.t 147)⟩ (.done)) (.nil)))))) (.nil))) (.nil)))) (.cons ⟨some 21, none, .alloc [.d true (.int .i64 0), .d true (.int .i64 0), .d true (.str ⟨#[]⟩), .nil]⟩ (.br (.cons ⟨some 144, none, .call (.c (.fn 26 [])) [.t 143]⟩ (.br (.cons ⟨some 145, none, .call (.c (.fn 52 [])) [.t 138, .t 140, .t 142, .t 144]⟩ (.take ⟨some 136, none, .mv (.t 145)⟩ (.take ⟨some 146, none, .ext (.t 136) 0⟩ (.take ⟨some 147, none, .ext (.t 136) 1⟩ (.br (.cons ⟨none, none, .st 4 (.t 21) (.t 146)⟩ (.take ⟨some 22, none, .mv (.t 147)⟩ (.done)) (.nil)))))) (.nil))) (.nil))) (.nil)))) (.cons ⟨some 21, none, .alloc [.d true (.int .i64 0), .d true (.int .i64 0), .d true (.str ⟨#[]⟩), .nil]⟩ (.br (.cons ⟨some 142, none, .call (.c (.fn 26 [])) [.t 141]⟩ (.br (.cons ⟨some 144, none, .call (.c (.fn 26 [])) [.t 143]⟩ (.br (.cons ⟨some 145, none, .call (.c (.fn 52 [])) [.t 138, .t 140, .t 142, .t 144]⟩ (.take ⟨some 136, none, .mv (.t 145)⟩ (.take ⟨some 146, none, .ext (.t 136) 0⟩ (.take ⟨some 147, none, .ext (.t 136) 1⟩ (.br (.cons ⟨none, none, .st 4 (.t 21) (.t 146)⟩ (.take ⟨some 22, none, .mv (.t 147)⟩ (.done)) (.nil)))))) (.nil))) (.nil))) (.nil))) (.nil)))) (.cons ⟨some 21, none, .alloc [.d true (.int .i64 0), .d true (.int .i64 0), .d true (.str ⟨#[]⟩), .nil]⟩ (.br (.cons ⟨some 140, none, .call (.c (.fn 26 [])) [.t 139]⟩ (.br (.cons ⟨some 142, none, .call (.c (.fn 26 [])) [.t 141]⟩ (.br (.cons ⟨some 144, none, .call (.c (.fn 26 [])) [.t 143]⟩ (.br (.cons ⟨some 145, none, .call (.c (.fn 52 [])) [.t 138, .t 140, .t 142, .t 144]⟩ (.take ⟨some 136, none, .mv (.t 145)⟩ (.take ⟨some 146, none, .ext (.t 136) 0⟩ (.take ⟨some 147, none, .ext (.t 136) 1⟩ (.br (.cons ⟨none, none, .st 4 (.t 21) (.t 146)⟩ (.take ⟨some 22, none, .mv (.t 147)⟩ (.done)) (.nil)))))) (.nil))) (.nil))) (.nil))) (.nil))) (.nil)))) (.cons ⟨some 21, none, .alloc [.d true (.int .i64 0), .d true (.int .i64 0), .d true (.str ⟨#[]⟩), .nil]⟩ (.br (.cons ⟨some 138, none, .call (.c (.fn 26 [])) [.t 137]⟩ (.br (.cons ⟨some 140, none, .call (.c (.fn 26 [])) [.t 139]⟩ (.br (.cons ⟨some 142, none, .call (.c (.fn 26 [])) [.t 141]⟩ (.br (.cons ⟨some 144, none, .call (.c (.fn 26 [])) [.t 143]⟩ (.br (.cons ⟨some 145, none, .call (.c (.fn 52 [])) [.t 138, .t 140, .t 142, .t 144]⟩ (.take ⟨some 136, none, .mv (.t 145)⟩ (.take ⟨some 146, none, .ext (.t 136) 0⟩ (.take ⟨some 147, none, .ext (.t 136) 1⟩ (.br (.cons ⟨none, none, .st 4 (.t 21) (.t 146)⟩ (.take ⟨some 22, none, .mv (.t 147)⟩ (.done)) (.nil)))))) (.nil))) (.nil))) (.nil))) (.nil))) (.nil))) (.nil)))))))) [10, 11, 16, 19, 21, 22]) (.seq (.seq (.region [⟨some 148, none, .ld (some 4) (.t 21)⟩, ⟨some 149, none, .ld (some 4) (.t 10)⟩, ⟨some 150, none, .call (.c (.fn 28 [])) [.t 148, .t 149]⟩, ⟨some 151, none, .not (.t 150)⟩, ⟨some 152, none, .mv (.t 151)⟩, ⟨some 153, some (152, false), .mv (.t 22)⟩, ⟨some 154, some (152, false), .mv (.t 11)⟩, ⟨some 155, some (152, false), .beq true (.t 153) (.t 154)⟩, ⟨some 156, none, .pick (.t 152) (.c (.d true (.bool true))) (.t 155)⟩] [16, 19, 156]) (.cond (.t 156) (.seq (.region [⟨some 8, none, .mv (.c (.d true (.bool false)))⟩] [8]) (.ret)) (.skip))) (.seq (.region [⟨some 20, none, .mv (.c (.d true (.int .i64 1)))⟩] [16, 19, 20]) (.seq (.region [⟨some 157, none, .ld (some 4) (.t 16)⟩, ⟨some 158, none, .mv (.t 20)⟩, ⟨some 159, none, .call (.c (.fn 44 [])) [.t 157, .t 158]⟩, ⟨some 20, none, .mv (.t 159)⟩] [19, 20]) (.seq (.seq (.region [⟨some 160, none, .mv (.t 20)⟩, ⟨some 161, none, .bin .lss (.t 160) (.c (.d true (.int .i64 0)))⟩] [19, 20, 161]) (.cond (.t 161) (.seq (.region [⟨some 8, none, .mv (.c (.d true (.bool false)))⟩] [8]) (.ret)) (.skip))) (.seq (.seq (.region [⟨some 162, none, .mv (.t 20)⟩, ⟨some 163, none, .mv (.t 19)⟩, ⟨some 164, none, .bin .neq (.t 162) (.t 163)⟩] [164]) (.cond (.t 164) (.seq (.region [⟨some 8, none, .mv (.c (.d true (.bool false)))⟩] [8]) (.ret)) (.skip))) (.seq (.region [⟨some 8, none, .mv (.c (.d true (.bool true)))⟩] [8]) (.ret))))))))))))))))))))))))))))))))))))))))
theorem ok14 : FnOk Tryd.prog Tryd.f14 165 keep14 ac14 [.t 8] := by
  refine ⟨?_, ?_, ?_, ?_, ?_⟩ <;> kernel_rfl

/-! spec.PatternOk -/
def keep15 : Nat → List Nat
  | 0 => [0]
  | 1 => [2]
  | _ => []
def ac15 : AC := .seq (.region [⟨some 2, none, .mv (.c (.d true (.bool false)))⟩] [0]) (.seq (.region [⟨some 3, none, .mv (.t 0)⟩, ⟨some 4, none, .call (.c (.fn 53 [])) [.t 3]⟩, ⟨some 5, none, .mv (.t 4)⟩, ⟨some 6, some (5, false), .mv (.t 0)⟩, ⟨some 7, some (5, false), .call (.c (.fn 54 [])) [.t 6]⟩, ⟨some 8, some (5, false), .mv (.t 7)⟩, ⟨some 9, some (8, true), .mv (.t 0)⟩, ⟨some 10, some (8, true), .sls (.t 9) (some (.c (.d true (.int .i64 2)))) none⟩, ⟨some 11, some (8, true), .call (.c (.fn 55 [])) [.t 10, .c (.d true (.int .i64 1))]⟩, ⟨some 12, some (5, false), .pick (.t 8) (.t 11) (.c (.d true (.bool false)))⟩, ⟨some 13, none, .pick (.t 5) (.c (.d true (.bool true))) (.t 12)⟩, ⟨some 2, none, .mv (.t 13)⟩] [2]) (.ret))
theorem ok15 : FnOk Tryd.prog Tryd.f15 14 keep15 ac15 [.t 2] := by
  refine ⟨?_, ?_, ?_, ?_, ?_⟩ <;> kernel_rfl

/-! impl.PatternOk -/
def keep16 : Nat → List Nat
  | 0 => [0]
  | 1 => [0, 3, 4]
  | 2 => [0, 3, 10]
  | 3 => [2]
  | 4 => [2]
  | _ => []
def ac16 : AC := .seq (.region [⟨some 2, none, .mv (.c (.d true (.bool false)))⟩] [0]) (.seq (.region [⟨some 6, none, .mv (.t 0)⟩, ⟨some 7, none, .call (.c (.fn 56 [])) [.t 6, .c (.d true (.str ⟨#[42, 46]⟩))]⟩, ⟨some 5, none, .mv (.t 7)⟩, ⟨some 8, none, .ext (.t 5) 0⟩, ⟨some 9, none, .ext (.t 5) 1⟩, ⟨some 3, none, .mv (.t 8)⟩, ⟨some 4, none, .mv (.t 9)⟩] [0, 3, 4]) (.seq (.seq (.region [⟨some 10, none, .mv (.t 4)⟩] [0, 3, 10]) (.cond (.t 10) (.seq (.region [⟨some 11, none, .mv (.t 3)⟩, ⟨some 12, none, .call (.c (.fn 57 [])) [.t 11, .c (.d true (.int .i64 1))]⟩, ⟨some 2, none, .mv (.t 12)⟩] [2]) (.ret)) (.skip))) (.seq (.region [⟨some 13, none, .mv (.t 0)⟩, ⟨some 14, none, .call (.c (.fn 58 [])) [.t 13]⟩, ⟨some 2, none, .mv (.t 14)⟩] [2]) (.ret))))
theorem ok16 : FnOk Tryd.prog Tryd.f16 15 keep16 ac16 [.t 2] := by
  refine ⟨?_, ?_, ?_, ?_, ?_⟩ <;> kernel_rfl

/-! spec.Fits -/
def keep17 : Nat → List Nat
  | 0 => [0, 1]
  | 1 => [0, 1, 13]
  | 2 => [4]
  | 3 => [0, 1, 16]
  | 4 => [4]
  | 5 => [0, 1, 5]
  | 6 => [4]
  | _ => []
def ac17 : AC := .seq (.region [⟨some 4, none, .mv (.c (.d true (.bool false)))⟩] [0, 1]) (.seq (.seq (.region [⟨some 6, none, .mv (.t 0)⟩, ⟨some 7, none, .call (.c (.fn 15 [])) [.t 6]⟩, ⟨some 8, none, .not (.t 7)⟩, ⟨some 9, none, .mv (.t 8)⟩, ⟨some 10, some (9, false), .mv (.t 1)⟩, ⟨some 11, some (9, false), .call (.c (.fn 53 [])) [.t 10]⟩, ⟨some 12, some (9, false), .not (.t 11)⟩, ⟨some 13, none, .pick (.t 9) (.c (.d true (.bool true))) (.t 12)⟩] [0, 1, 13]) (.cond (.t 13) (.seq (.region [⟨some 4, none, .mv (.c (.d true (.bool false)))⟩] [4]) (.ret)) (.skip))) (.seq (.seq (.region [⟨some 14, none, .mv (.t 0)⟩, ⟨some 15, none, .mv (.t 1)⟩, ⟨some 16, none, .bin .eql (.t 14) (.t 15)⟩] [0, 1, 16]) (.cond (.t 16) (.seq (.region [⟨some 4, none, .mv (.c (.d true (.bool true)))⟩] [4]) (.ret)) (.skip))) (.seq (.region [⟨some 17, none, .mv (.t 1)⟩, ⟨some 18, none, .call (.c (.fn 59 [])) [.t 17]⟩, ⟨some 19, none, .ia 1 (.t 18) (.c (.d true (.int .i64 0)))⟩, ⟨some 20, none, .ld none (.t 19)⟩, ⟨some 5, none, .mv (.t 20)⟩] [0, 1, 5]) (.seq (.draw [⟨some 21, none, .mv (.t 0)⟩, ⟨some 22, none, .call (.c (.fn 54 [])) [.t 21]⟩, ⟨some 23, none, .mv (.t 22)⟩, ⟨some 24, some (23, true), .mv (.t 1)⟩, ⟨some 25, some (23, true), .mv (.t 5)⟩, ⟨some 26, some (23, true), .slen (.t 25)⟩, ⟨some 27, some (23, true), .bin .add (.t 26) (.c (.d true (.int .i64 1)))⟩, ⟨some 28, some (23, true), .sls (.t 24) (some (.t 27)) none⟩, ⟨some 29, some (23, true), .mv (.t 0)⟩, ⟨some 30, some (23, true), .sls (.t 29) (some (.c (.d true (.int .i64 2)))) none⟩, ⟨some 31, some (23, true), .bin .eql (.t 28) (.t 30)⟩, ⟨some 32, none, .pick (.t 23) (.t 31) (.c (.d true (.bool false)))⟩, ⟨some 4, none, .mv (.t 32)⟩] [4]) (.ret)))))
theorem ok17 : FnOk Tryd.prog Tryd.f17 33 keep17 ac17 [.t 4] := by
  refine ⟨?_, ?_, ?_, ?_, ?_⟩ <;> kernel_rfl

/-! impl.Fits -/
def keep18 : Nat → List Nat
  | 0 => [0, 1]
  | 1 => [0, 1, 17]
  | 2 => [4]
  | 3 => [0, 1, 5, 6]
  | 4 => [0, 1, 5, 6, 8]
  | 5 => [4]
  | _ => []
def ac18 : AC := .seq (.region [⟨some 4, none, .mv (.c (.d true (.bool false)))⟩] [0, 1]) (.seq (.seq (.region [⟨some 10, none, .mv (.t 0)⟩, ⟨some 11, none, .call (.c (.fn 16 [])) [.t 10]⟩, ⟨some 12, none, .not (.t 11)⟩, ⟨some 13, none, .mv (.t 12)⟩, ⟨some 14, some (13, false), .mv (.t 1)⟩, ⟨some 15, some (13, false), .call (.c (.fn 58 [])) [.t 14]⟩, ⟨some 16, some (13, false), .not (.t 15)⟩, ⟨some 17, none, .pick (.t 13) (.c (.d true (.bool true))) (.t 16)⟩] [0, 1, 17]) (.cond (.t 17) (.seq (.region [⟨some 4, none, .mv (.c (.d true (.bool false)))⟩] [4]) (.ret)) (.skip))) (.seq (.region [⟨some 19, none, .mv (.t 0)⟩, ⟨some 20, none, .call (.c (.fn 56 [])) [.t 19, .c (.d true (.str ⟨#[42, 46]⟩))]⟩, ⟨some 18, none, .mv (.t 20)⟩, ⟨some 21, none, .ext (.t 18) 0⟩, ⟨some 22, none, .ext (.t 18) 1⟩, ⟨some 5, none, .mv (.t 21)⟩, ⟨some 6, none, .mv (.t 22)⟩] [0, 1, 5, 6]) (.seq (.region [⟨some 24, none, .mv (.t 1)⟩, ⟨some 25, none, .call (.c (.fn 60 [])) [.t 24, .c (.d true (.str ⟨#[46]⟩))]⟩, ⟨some 23, none, .mv (.t 25)⟩, ⟨some 26, none, .ext (.t 23) 0⟩, ⟨some 27, none, .ext (.t 23) 1⟩, ⟨some 28, none, .ext (.t 23) 2⟩, ⟨some 7, none, .mv (.t 26)⟩, ⟨some 8, none, .mv (.t 27)⟩, ⟨some 9, none, .mv (.t 28)⟩] [0, 1, 5, 6, 8]) (.seq (.region [⟨some 29, none, .mv (.t 0)⟩, ⟨some 30, none, .mv (.t 1)⟩, ⟨some 31, none, .bin .eql (.t 29) (.t 30)⟩, ⟨some 32, none, .mv (.t 31)⟩, ⟨some 33, some (32, false), .mv (.t 6)⟩, ⟨some 34, some (32, false), .mv (.t 33)⟩, ⟨some 35, some (34, true), .mv (.t 8)⟩, ⟨some 36, some (34, true), .mv (.t 5)⟩, ⟨some 37, some (34, true), .bin .eql (.t 35) (.t 36)⟩, ⟨some 38, some (32, false), .pick (.t 34) (.t 37) (.c (.d true (.bool false)))⟩, ⟨some 39, none, .pick (.t 32) (.c (.d true (.bool true))) (.t 38)⟩, ⟨some 4, none, .mv (.t 39)⟩] [4]) (.ret)))))
theorem ok18 : FnOk Tryd.prog Tryd.f18 40 keep18 ac18 [.t 4] := by
  refine ⟨?_, ?_, ?_, ?_, ?_⟩ <;> kernel_rfl

/-! laws.szPolicy -/
def keep19 : Nat → List Nat
  | 0 => [1, 2]
  | 1 => [1, 2]
  | 2 => [1, 2, 11]
  | 3 => [4]
  | 4 => [1]
  | 5 => [1, 17]
  | 6 => [4]
  | 7 => [4]
  | _ => []
def ac19 : AC := .seq (.region [⟨some 2, none, .box (.t 0)⟩, ⟨some 4, none, .mv (.c (.d true (.int .i64 0)))⟩] [1, 2]) (.seq (.region [⟨some 5, none, .mv (.t 1)⟩, ⟨some 6, none, .fa 0 (.t 2)⟩, ⟨some 7, none, .ld none (.t 6)⟩, ⟨some 8, none, .slen (.t 7)⟩, ⟨some 9, none, .bin .sub (.t 5) (.t 8)⟩, ⟨some 1, none, .mv (.t 9)⟩] [1, 2]) (.seq (.seq (.region [⟨some 10, none, .mv (.t 1)⟩, ⟨some 11, none, .bin .lss (.t 10) (.c (.d true (.int .i64 0)))⟩] [1, 2, 11]) (.cond (.t 11) (.seq (.region [⟨some 4, none, .mv (.c (.d true (.int .i64 (-1))))⟩] [4]) (.ret)) (.skip))) (.seq (.region [⟨some 12, none, .fa 2 (.t 2)⟩, ⟨some 13, none, .ld none (.t 12)⟩, ⟨some 14, none, .mv (.t 1)⟩, ⟨some 15, none, .call (.c (.fn 61 [])) [.t 13, .t 14]⟩, ⟨some 1, none, .mv (.t 15)⟩] [1]) (.seq (.seq (.region [⟨some 16, none, .mv (.t 1)⟩, ⟨some 17, none, .bin .lss (.t 16) (.c (.d true (.int .i64 0)))⟩] [1, 17]) (.cond (.t 17) (.seq (.region [⟨some 4, none, .mv (.c (.d true (.int .i64 (-1))))⟩] [4]) (.ret)) (.skip))) (.seq (.region [⟨some 18, none, .mv (.t 1)⟩, ⟨some 4, none, .mv (.t 18)⟩] [4]) (.ret))))))
theorem ok19 : FnOk Tryd.prog Tryd.f19 19 keep19 ac19 [.t 4] := by
  refine ⟨?_, ?_, ?_, ?_, ?_⟩ <;> kernel_rfl

/-! spec.PolicyOk -/
def keep20 : Nat → List Nat
  | 0 => [1]
  | 1 => [1, 3]
  | 2 => [1, 3, 8]
  | 3 => [1, 3]
  | 4 => [1, 3, 17]
  | 5 => [2]
  | 6 => [2]
  | _ => []
def ac20 : AC := .seq (.region [⟨some 1, none, .box (.t 0)⟩, ⟨some 2, none, .mv (.c (.d true (.bool false)))⟩] [1]) (.seq (.seq (.region [⟨some 3, none, .mv (.c (.d true (.int .i64 0)))⟩] [1, 3]) (.block 0 (.loop (.seq (.seq (.region [⟨some 4, none, .mv (.t 3)⟩, ⟨some 5, none, .fa 2 (.t 1)⟩, ⟨some 6, none, .ld none (.t 5)⟩, ⟨some 7, none, .len (.t 6)⟩, ⟨some 8, none, .bin .lss (.t 4) (.t 7)⟩] [1, 3, 8]) (.cond (.t 8) (.skip) (.exit 0))) (.seq (.block 1 (.seq (.region [⟨some 11, none, .fa 2 (.t 1)⟩, ⟨some 12, none, .ld none (.t 11)⟩, ⟨some 13, none, .mv (.t 3)⟩, ⟨some 14, none, .ia 1 (.t 12) (.t 13)⟩, ⟨some 15, none, .ld none (.t 14)⟩, ⟨some 16, none, .call (.c (.fn 15 [])) [.t 15]⟩, ⟨some 17, none, .not (.t 16)⟩] [1, 3, 17]) (.cond (.t 17) (.seq (.region [⟨some 2, none, .mv (.c (.d true (.bool false)))⟩] [2]) (.ret)) (.skip)))) (.region [⟨some 9, none, .mv (.t 3)⟩, ⟨some 10, none, .bin .add (.t 9) (.c (.d true (.int .i64 1)))⟩, ⟨some 3, none, .mv (.t 10)⟩] [1, 3])))))) (.seq (.region [⟨some 18, none, .fa 0 (.t 1)⟩, ⟨some 19, none, .ld none (.t 18)⟩, ⟨some 20, none, .call (.c (.fn 62 [])) [.t 19]⟩, ⟨some 21, none, .mv (.t 20)⟩, ⟨some 22, some (21, true), .fa 1 (.t 1)⟩, ⟨some 23, some (21, true), .ld none (.t 22)⟩, ⟨some 24, some (21, true), .call (.c (.fn 63 [])) [.t 23, .c (.d true (.int .i64 0)), .c (.d true (.int .i64 2))]⟩, ⟨some 25, none, .pick (.t 21) (.t 24) (.c (.d true (.bool false)))⟩, ⟨some 26, none, .mv (.t 25)⟩, ⟨some 27, some (26, true), .fa 2 (.t 1)⟩, ⟨some 28, some (26, true), .ld none (.t 27)⟩, ⟨some 29, some (26, true), .len (.t 28)⟩, ⟨some 30, some (26, true), .bin .leq (.t 29) (.c (.d true (.int .i64 5)))⟩, ⟨some 31, none, .pick (.t 26) (.t 30) (.c (.d true (.bool false)))⟩, ⟨some 32, none, .mv (.t 31)⟩, ⟨some 33, some (32, true), .fa 1 (.t 1)⟩, ⟨some 34, some (32, true), .ld none (.t 33)⟩, ⟨some 35, some (32, true), .bin .eql (.t 34) (.c (.d true (.int .i64 0)))⟩, ⟨some 36, some (32, true), .mv (.t 35)⟩, ⟨some 37, some (36, false), .fa 2 (.t 1)⟩, ⟨some 38, some (36, false), .ld none (.t 37)⟩, ⟨some 39, some (36, false), .len (.t 38)⟩, ⟨some 40, some (36, false), .bin .gtr (.t 39) (.c (.d true (.int .i64 0)))⟩, ⟨some 41, some (32, true), .pick (.t 36) (.c (.d true (.bool true))) (.t 40)⟩, ⟨some 42, none, .pick (.t 32) (.t 41) (.c (.d true (.bool false)))⟩, ⟨some 43, none, .mv (.t 42)⟩, ⟨some 44, some (43, true), .fa 3 (.t 1)⟩, ⟨some 45, some (43, true), .ld none (.t 44)⟩, ⟨some 46, some (43, true), .call (.c (.fn 63 [])) [.t 45, .c (.d true (.int .i64 0)), .c (.d true (.int .i64 100000))]⟩, ⟨some 47, none, .pick (.t 43) (.t 46) (.c (.d true (.bool false)))⟩, ⟨some 2, none, .mv (.t 47)⟩] [2]) (.ret)))
theorem ok20 : FnOk Tryd.prog Tryd.f20 48 keep20 ac20 [.t 2] := by
  refine ⟨?_, ?_, ?_, ?_, ?_⟩ <;> kernel_rfl

/-! laws.toPolicy -/
def keep21 : Nat → List Nat
  | 0 => [1, 2]
  | 1 => [1, 2, 3]
  | 2 => [1, 2, 3]
  | 3 => [1, 2, 3]
  | 4 => [1, 2, 3]
  | 5 => [2, 3]
  | 6 => [2]
  | _ => []
def ac21 : AC := .seq (.region [⟨some 1, none, .box (.t 0)⟩, ⟨some 2, none, .alloc [.d true (.str ⟨#[]⟩), .d true (.int .i64 0), .nil, .d true (.int .i64 0)]⟩] [1, 2]) (.seq (.region [⟨some 3, none, .alloc [.d true (.str ⟨#[]⟩), .d true (.int .i64 0), .nil, .d true (.int .i64 0)]⟩] [1, 2, 3]) (.seq (.region [⟨some 4, none, .fa 0 (.t 1)⟩, ⟨some 5, none, .ld none (.t 4)⟩, ⟨some 6, none, .fa 0 (.t 3)⟩, ⟨none, none, .st 1 (.t 6) (.t 5)⟩] [1, 2, 3]) (.seq (.region [⟨some 7, none, .fa 1 (.t 1)⟩, ⟨some 8, none, .ld none (.t 7)⟩, ⟨some 9, none, .fa 1 (.t 3)⟩, ⟨none, none, .st 1 (.t 9) (.t 8)⟩] [1, 2, 3]) (.seq (.region [⟨some 10, none, .fa 2 (.t 1)⟩, ⟨some 11, none, .ld none (.t 10)⟩, ⟨some 12, none, .call (.c (.fn 64 [])) [.t 11]⟩, ⟨some 13, none, .fa 2 (.t 3)⟩, ⟨none, none, .st 1 (.t 13) (.t 12)⟩] [1, 2, 3]) (.seq (.region [⟨some 14, none, .fa 3 (.t 1)⟩, ⟨some 15, none, .ld none (.t 14)⟩, ⟨some 16, none, .fa 3 (.t 3)⟩, ⟨none, none, .st 1 (.t 16) (.t 15)⟩] [2, 3]) (.seq (.region [⟨some 17, none, .ld (some 4) (.t 3)⟩, ⟨none, none, .st 4 (.t 2) (.t 17)⟩] [2]) (.ret)))))))
theorem ok21 : FnOk Tryd.prog Tryd.f21 18 keep21 ac21 [.c 2 (some 4)] := by
  refine ⟨?_, ?_, ?_, ?_, ?_⟩ <;> kernel_rfl

/-! impl.PolicyOk -/
def keep22 : Nat → List Nat
  | 0 => [1]
  | 1 => [1, 23]
  | 2 => [2]
  | 3 => [2]
  | _ => []
def ac22 : AC := .seq (.region [⟨some 1, none, .box (.t 0)⟩, ⟨some 2, none, .mv (.c (.d true (.bool false)))⟩] [1]) (.seq (.seq (.region [⟨some 3, none, .fa 0 (.t 1)⟩, ⟨some 4, none, .ld none (.t 3)⟩, ⟨some 5, none, .call (.c (.fn 65 [])) [.t 4]⟩, ⟨some 6, none, .not (.t 5)⟩, ⟨some 7, none, .mv (.t 6)⟩, ⟨some 8, some (7, false), .fa 1 (.t 1)⟩, ⟨some 9, some (7, false), .ld none (.t 8)⟩, ⟨some 10, some (7, false), .call (.c (.fn 66 [])) [.t 9, .c (.d true (.int .i64 0)), .c (.d true (.int .i64 2))]⟩, ⟨some 11, some (7, false), .not (.t 10)⟩, ⟨some 12, none, .pick (.t 7) (.c (.d true (.bool true))) (.t 11)⟩, ⟨some 13, none, .mv (.t 12)⟩, ⟨some 14, some (13, false), .fa 2 (.t 1)⟩, ⟨some 15, some (13, false), .ld none (.t 14)⟩, ⟨some 16, some (13, false), .len (.t 15)⟩, ⟨some 17, some (13, false), .bin .gtr (.t 16) (.c (.d true (.int .i64 5)))⟩, ⟨some 18, none, .pick (.t 13) (.c (.d true (.bool true))) (.t 17)⟩, ⟨some 19, none, .mv (.t 18)⟩, ⟨some 20, some (19, false), .fa 2 (.t 1)⟩, ⟨some 21, some (19, false), .ld none (.t 20)⟩, ⟨some 22, some (19, false), .call (.c (.fn 67 [])) [.t 21, .c (.fn 68 [])]⟩, ⟨some 23, none, .pick (.t 19) (.c (.d true (.bool true))) (.t 22)⟩] [1, 23]) (.cond (.t 23) (.seq (.region [⟨some 2, none, .mv (.c (.d true (.bool false)))⟩] [2]) (.ret)) (.skip))) (.seq (.region [⟨some 24, none, .fa 1 (.t 1)⟩, ⟨some 25, none, .ld none (.t 24)⟩, ⟨some 26, none, .bin .eql (.t 25) (.c (.d true (.int .i64 0)))⟩, ⟨some 27, none, .mv (.t 26)⟩, ⟨some 28, some (27, false), .fa 2 (.t 1)⟩, ⟨some 29, some (27, false), .ld none (.t 28)⟩, ⟨some 30, some (27, false), .len (.t 29)⟩, ⟨some 31, some (27, false), .bin .gtr (.t 30) (.c (.d true (.int .i64 0)))⟩, ⟨some 32, none, .pick (.t 27) (.c (.d true (.bool true))) (.t 31)⟩, ⟨some 33, none, .mv (.t 32)⟩, ⟨some 34, some (33, true), .fa 3 (.t 1)⟩, ⟨some 35, some (33, true), .ld none (.t 34)⟩, ⟨some 36, some (33, true), .call (.c (.fn 69 [])) [.t 35]⟩, ⟨some 37, none, .pick (.t 33) (.t 36) (.c (.d true (.bool false)))⟩, ⟨some 2, none, .mv (.t 37)⟩] [2]) (.ret)))
theorem ok22 : FnOk Tryd.prog Tryd.f22 38 keep22 ac22 [.t 2] := by
  refine ⟨?_, ?_, ?_, ?_, ?_⟩ <;> kernel_rfl

/-! laws.eqPolicy -/
def keep23 : Nat → List Nat
  | 0 => [2, 3]
  | 1 => [2, 3, 9]
  | 2 => [4]
  | 3 => [2, 3, 14]
  | 4 => [4]
  | 5 => [2, 3, 20]
  | 6 => [4]
  | 7 => [25]
  | 8 => [4]
  | 9 => [4]
  | _ => []
def ac23 : AC := .seq (.region [⟨some 2, none, .box (.t 0)⟩, ⟨some 3, none, .box (.t 1)⟩, ⟨some 4, none, .mv (.c (.d true (.bool false)))⟩] [2, 3]) (.seq (.seq (.region [⟨some 5, none, .fa 0 (.t 2)⟩, ⟨some 6, none, .ld none (.t 5)⟩, ⟨some 7, none, .fa 0 (.t 3)⟩, ⟨some 8, none, .ld none (.t 7)⟩, ⟨some 9, none, .bin .neq (.t 6) (.t 8)⟩] [2, 3, 9]) (.cond (.t 9) (.seq (.region [⟨some 4, none, .mv (.c (.d true (.bool false)))⟩] [4]) (.ret)) (.skip))) (.seq (.seq (.region [⟨some 10, none, .fa 1 (.t 2)⟩, ⟨some 11, none, .ld none (.t 10)⟩, ⟨some 12, none, .fa 1 (.t 3)⟩, ⟨some 13, none, .ld none (.t 12)⟩, ⟨some 14, none, .bin .neq (.t 11) (.t 13)⟩] [2, 3, 14]) (.cond (.t 14) (.seq (.region [⟨some 4, none, .mv (.c (.d true (.bool false)))⟩] [4]) (.ret)) (.skip))) (.seq (.seq (.region [⟨some 15, none, .fa 2 (.t 2)⟩, ⟨some 16, none, .ld none (.t 15)⟩, ⟨some 17, none, .fa 2 (.t 3)⟩, ⟨some 18, none, .ld none (.t 17)⟩, ⟨some 19, none, .call (.c (.fn 70 [])) [.t 16, .t 18]⟩, ⟨some 20, none, .not (.t 19)⟩] [2, 3, 20]) (.cond (.t 20) (.seq (.region [⟨some 4, none, .mv (.c (.d true (.bool false)))⟩] [4]) (.ret)) (.skip))) (.seq (.seq (.region [⟨some 21, none, .fa 3 (.t 2)⟩, ⟨some 22, none, .ld none (.t 21)⟩, ⟨some 23, none, .fa 3 (.t 3)⟩, ⟨some 24, none, .ld none (.t 23)⟩, ⟨some 25, none, .bin .neq (.t 22) (.t 24)⟩] [25]) (.cond (.t 25) (.seq (.region [⟨some 4, none, .mv (.c (.d true (.bool false)))⟩] [4]) (.ret)) (.skip))) (.seq (.region [⟨some 4, none, .mv (.c (.d true (.bool true)))⟩] [4]) (.ret))))))
theorem ok23 : FnOk Tryd.prog Tryd.f23 26 keep23 ac23 [.t 4] := by
  refine ⟨?_, ?_, ?_, ?_, ?_⟩ <;> kernel_rfl

/-! laws.szTerm -/
def keep24 : Nat → List Nat
  | 0 => [1, 2]
  | 1 => [1, 2]
  | 2 => [1, 2, 11]
  | 3 => [4]
  | 4 => [1]
  | 5 => [1, 17]
  | 6 => [4]
  | 7 => [4]
  | _ => []
def ac24 : AC := .seq (.region [⟨some 2, none, .box (.t 0)⟩, ⟨some 4, none, .mv (.c (.d true (.int .i64 0)))⟩] [1, 2]) (.seq (.region [⟨some 5, none, .mv (.t 1)⟩, ⟨some 6, none, .fa 2 (.t 2)⟩, ⟨some 7, none, .ld none (.t 6)⟩, ⟨some 8, none, .slen (.t 7)⟩, ⟨some 9, none, .bin .sub (.t 5) (.t 8)⟩, ⟨some 1, none, .mv (.t 9)⟩] [1, 2]) (.seq (.seq (.region [⟨some 10, none, .mv (.t 1)⟩, ⟨some 11, none, .bin .lss (.t 10) (.c (.d true (.int .i64 0)))⟩] [1, 2, 11]) (.cond (.t 11) (.seq (.region [⟨some 4, none, .mv (.c (.d true (.int .i64 (-1))))⟩] [4]) (.ret)) (.skip))) (.seq (.region [⟨some 12, none, .fa 3 (.t 2)⟩, ⟨some 13, none, .ld none (.t 12)⟩, ⟨some 14, none, .mv (.t 1)⟩, ⟨some 15, none, .call (.c (.fn 71 [])) [.t 13, .t 14]⟩, ⟨some 1, none, .mv (.t 15)⟩] [1]) (.seq (.seq (.region [⟨some 16, none, .mv (.t 1)⟩, ⟨some 17, none, .bin .lss (.t 16) (.c (.d true (.int .i64 0)))⟩] [1, 17]) (.cond (.t 17) (.seq (.region [⟨some 4, none, .mv (.c (.d true (.int .i64 (-1))))⟩] [4]) (.ret)) (.skip))) (.seq (.region [⟨some 18, none, .mv (.t 1)⟩, ⟨some 4, none, .mv (.t 18)⟩] [4]) (.ret))))))
theorem ok24 : FnOk Tryd.prog Tryd.f24 19 keep24 ac24 [.t 4] := by
  refine ⟨?_, ?_, ?_, ?_, ?_⟩ <;> kernel_rfl

/-! spec.TermText -/
def keep25 : Nat → List Nat
  | 0 => [1]
  | 1 => [1, 3]
  | 2 => [1, 3, 7]
  | 3 => [2]
  | 4 => [1, 3, 14]
  | 5 => [2]
  | 6 => [1, 3, 22]
  | 7 => [2]
  | 8 => [1, 4]
  | 9 => [1, 4, 5]
  | 10 => [1, 4, 5, 37]
  | 11 => [1, 4, 5]
  | 12 => [1, 4, 5, 41]
  | 13 => [1, 4, 5]
  | 14 => [1, 4, 5]
  | 15 => [2]
  | _ => []
def ac25 : AC := .seq (.region [⟨some 1, none, .box (.t 0)⟩, ⟨some 2, none, .mv (.c (.d true (.str ⟨#[]⟩)))⟩] [1]) (.seq (.region [⟨some 6, none, .bs 9 1 [.c (.d true (.str ⟨#[]⟩)), .c (.d true (.str ⟨#[]⟩)), .c (.d true (.str ⟨#[]⟩)), .c (.d true (.str ⟨#[112, 97, 105, 114]⟩)), .c (.d true (.str ⟨#[112, 117, 98]⟩)), .c (.d true (.str ⟨#[115, 104, 97, 114, 101]⟩)), .c (.d true (.str ⟨#[104, 97, 115, 104]⟩)), .c (.d true (.str ⟨#[115, 101, 97, 108]⟩)), .c (.d true (.str ⟨#[115, 105, 103, 110]⟩))]⟩, ⟨some 3, none, .mv (.t 6)⟩] [1, 3]) (.seq (.block 0 (.seq (.region [⟨some 8, none, .fa 0 (.t 1)⟩, ⟨some 9, none, .ld none (.t 8)⟩, ⟨some 10, none, .bin .eql (.t 9) (.c (.d true (.int .i64 1)))⟩, ⟨some 7, none, .mv (.t 10)⟩] [1, 3, 7]) (.cond (.t 7) (.seq (.region [⟨some 11, none, .fa 1 (.t 1)⟩, ⟨some 12, none, .ld none (.t 11)⟩, ⟨some 13, none, .call (.c (.fn 72 [])) [.t 12]⟩, ⟨some 2, none, .mv (.t 13)⟩] [2]) (.ret)) (.seq (.region [⟨some 15, none, .fa 0 (.t 1)⟩, ⟨some 16, none, .ld none (.t 15)⟩, ⟨some 17, none, .bin .eql (.t 16) (.c (.d true (.int .i64 2)))⟩, ⟨some 14, none, .mv (.t 17)⟩] [1, 3, 14]) (.cond (.t 14) (.seq (.region [⟨some 18, none, .fa 2 (.t 1)⟩, ⟨some 19, none, .ld none (.t 18)⟩, ⟨some 20, none, .bin .add (.c (.d true (.str ⟨#[60]⟩))) (.t 19)⟩, ⟨some 21, none, .bin .add (.t 20) (.c (.d true (.str ⟨#[62]⟩)))⟩, ⟨some 2, none, .mv (.t 21)⟩] [2]) (.ret)) (.seq (.region [⟨some 23, none, .fa 0 (.t 1)⟩, ⟨some 24, none, .ld none (.t 23)⟩, ⟨some 25, none, .call (.c (.fn 63 [])) [.t 24, .c (.d true (.int .i64 3)), .c (.d true (.int .i64 8))]⟩, ⟨some 26, none, .not (.t 25)⟩, ⟨some 22, none, .mv (.t 26)⟩] [1, 3, 22]) (.cond (.t 22) (.seq (.region [⟨some 2, none, .mv (.c (.d true (.str ⟨#[63]⟩)))⟩] [2]) (.ret)) (.skip)))))))) (.seq (.region [⟨some 27, none, .mv (.t 3)⟩, ⟨some 28, none, .fa 0 (.t 1)⟩, ⟨some 29, none, .ld none (.t 28)⟩, ⟨some 30, none, .ia 1 (.t 27) (.t 29)⟩, ⟨some 31, none, .ld none (.t 30)⟩, ⟨some 32, none, .bin .add (.t 31) (.c (.d true (.str ⟨#[40]⟩)))⟩, ⟨some 4, none, .mv (.t 32)⟩] [1, 4]) (.seq (.seq (.region [⟨some 5, none, .mv (.c (.d true (.int .i64 0)))⟩] [1, 4, 5]) (.block 1 (.loop (.seq (.seq (.region [⟨some 33, none, .mv (.t 5)⟩, ⟨some 34, none, .fa 3 (.t 1)⟩, ⟨some 35, none, .ld none (.t 34)⟩, ⟨some 36, none, .len (.t 35)⟩, ⟨some 37, none, .bin .lss (.t 33) (.t 36)⟩] [1, 4, 5, 37]) (.cond (.t 37) (.skip) (.exit 1))) (.seq (.block 2 (.seq (.seq (.region [⟨some 40, none, .mv (.t 5)⟩, ⟨some 41, none, .bin .gtr (.t 40) (.c (.d true (.int .i64 0)))⟩] [1, 4, 5, 41]) (.cond (.t 41) (.region [⟨some 42, none, .mv (.t 4)⟩, ⟨some 43, none, .bin .add (.t 42) (.c (.d true (.str ⟨#[44]⟩)))⟩, ⟨some 4, none, .mv (.t 43)⟩] [1, 4, 5]) (.skip))) (.region [⟨some 44, none, .mv (.t 4)⟩, ⟨some 45, none, .fa 3 (.t 1)⟩, ⟨some 46, none, .ld none (.t 45)⟩, ⟨some 47, none, .mv (.t 5)⟩, ⟨some 48, none, .ia 4 (.t 46) (.t 47)⟩, ⟨some 49, none, .ld (some 4) (.t 48)⟩, ⟨some 50, none, .call (.c (.fn 25 [])) [.t 49]⟩, ⟨some 51, none, .bin .add (.t 44) (.t 50)⟩, ⟨some 4, none, .mv (.t 51)⟩] [1, 4, 5]))) (.region [⟨some 38, none, .mv (.t 5)⟩, ⟨some 39, none, .bin .add (.t 38) (.c (.d true (.int .i64 1)))⟩, ⟨some 5, none, .mv (.t 39)⟩] [1, 4, 5])))))) (.seq (.region [⟨some 52, none, .mv (.t 4)⟩, ⟨some 53, none, .bin .add (.t 52) (.c (.d true (.str ⟨#[41]⟩)))⟩, ⟨some 2, none, .mv (.t 53)⟩] [2]) (.ret))))))
theorem ok25 : FnOk Tryd.prog Tryd.f25 54 keep25 ac25 [.t 2] := by
  refine ⟨?_, ?_, ?_, ?_, ?_⟩ <;> kernel_rfl

/-! laws.toTerm -/
def keep26 : Nat → List Nat
  | 0 => [1, 2]
  | 1 => [1, 2, 3]
  | 2 => [1, 2, 3]
  | 3 => [1, 2, 3]
  | 4 => [1, 2, 3]
  | 5 => [2, 3]
  | 6 => [2]
  | _ => []
def ac26 : AC := .seq (.region [⟨some 1, none, .box (.t 0)⟩, ⟨some 2, none, .alloc [.d true (.int .i64 0), .d true (.int .i64 0), .d true (.str ⟨#[]⟩), .nil]⟩] [1, 2]) (.seq (.region [⟨some 3, none, .alloc [.d true (.int .i64 0), .d true (.int .i64 0), .d true (.str ⟨#[]⟩), .nil]⟩] [1, 2, 3]) (.seq (.region [⟨some 4, none, .fa 0 (.t 1)⟩, ⟨some 5, none, .ld none (.t 4)⟩, ⟨some 6, none, .fa 0 (.t 3)⟩, ⟨none, none, .st 1 (.t 6) (.t 5)⟩] [1, 2, 3]) (.seq (.region [⟨some 7, none, .fa 1 (.t 1)⟩, ⟨some 8, none, .ld none (.t 7)⟩, ⟨some 9, none, .fa 1 (.t 3)⟩, ⟨none, none, .st 1 (.t 9) (.t 8)⟩] [1, 2, 3]) (.seq (.region [⟨some 10, none, .fa 2 (.t 1)⟩, ⟨some 11, none, .ld none (.t 10)⟩, ⟨some 12, none, .fa 2 (.t 3)⟩, ⟨none, none, .st 1 (.t 12) (.t 11)⟩] [1, 2, 3]) (.seq (.region [⟨some 13, none, .fa 3 (.t 1)⟩, ⟨some 14, none, .ld none (.t 13)⟩, ⟨some 15, none, .call (.c (.fn 73 [])) [.t 14]⟩, ⟨some 16, none, .fa 3 (.t 3)⟩, ⟨none, none, .st 1 (.t 16) (.t 15)⟩] [2, 3]) (.seq (.region [⟨some 17, none, .ld (some 4) (.t 3)⟩, ⟨none, none, .st 4 (.t 2) (.t 17)⟩] [2]) (.ret)))))))
theorem ok26 : FnOk Tryd.prog Tryd.f26 18 keep26 ac26 [.c 2 (some 4)] := by
  refine ⟨?_, ?_, ?_, ?_, ?_⟩ <;> kernel_rfl

/-! impl.TermText -/
def keep27 : Nat → List Nat
  | 0 => [1]
  | 1 => [1]
  | 2 => [1, 8]
  | 3 => [2]
  | 4 => [1, 8, 9]
  | 5 => [2]
  | 6 => [1, 8, 14]
  | 7 => [2]
  | 8 => [1, 8, 20]
  | 9 => [1, 3]
  | 10 => [1, 8, 22]
  | 11 => [1, 3]
  | 12 => [1, 8, 24]
  | 13 => [1, 3]
  | 14 => [1, 8, 26]
  | 15 => [1, 3]
  | 16 => [1, 8, 28]
  | 17 => [1, 3]
  | 18 => [1, 30]
  | 19 => [1, 3]
  | 20 => [1, 3, 4]
  | 21 => [3, 4, 34, 35, 36]
  | 22 => [3, 4, 34, 35, 36, 37]
  | 23 => [3, 4, 6, 34, 35, 36]
  | 24 => [3, 4, 34, 35, 36]
  | 25 => [3, 4, 34, 35, 36]
  | 26 => [2]
  | _ => []
def ac27 : AC := .seq (.region [⟨some 1, none, .box (.t 0)⟩, ⟨some 2, none, .mv (.c (.d true (.str ⟨#[]⟩)))⟩] [1]) (.seq (.region [⟨some 3, none, .mv (.c (.d true (.str ⟨#[]⟩)))⟩] [1]) (.seq (.seq (.region [⟨some 7, none, .fa 0 (.t 1)⟩, ⟨some 8, none, .ld none (.t 7)⟩] [1, 8]) (.block 0 (.seq (.region [⟨some 10, none, .bin .eql (.t 8) (.c (.d true (.int .i64 1)))⟩, ⟨some 9, none, .mv (.t 10)⟩] [1, 8, 9]) (.cond (.t 9) (.seq (.region [⟨some 11, none, .fa 1 (.t 1)⟩, ⟨some 12, none, .ld none (.t 11)⟩, ⟨some 13, none, .call (.c (.fn 74 [])) [.t 12]⟩, ⟨some 2, none, .mv (.t 13)⟩] [2]) (.ret)) (.seq (.region [⟨some 15, none, .bin .eql (.t 8) (.c (.d true (.int .i64 2)))⟩, ⟨some 14, none, .mv (.t 15)⟩] [1, 8, 14]) (.cond (.t 14) (.seq (.region [⟨some 16, none, .fa 2 (.t 1)⟩, ⟨some 17, none, .ld none (.t 16)⟩, ⟨some 18, none, .bin .add (.c (.d true (.str ⟨#[60]⟩))) (.t 17)⟩, ⟨some 19, none, .bin .add (.t 18) (.c (.d true (.str ⟨#[62]⟩)))⟩, ⟨some 2, none, .mv (.t 19)⟩] [2]) (.ret)) (.seq (.region [⟨some 21, none, .bin .eql (.t 8) (.c (.d true (.int .i64 3)))⟩, ⟨some 20, none, .mv (.t 21)⟩] [1, 8, 20]) (.cond (.t 20) (.region [⟨some 3, none, .mv (.c (.d true (.str ⟨#[112, 97, 105, 114]⟩)))⟩] [1, 3]) (.seq (.region [⟨some 23, none, .bin .eql (.t 8) (.c (.d true (.int .i64 4)))⟩, ⟨some 22, none, .mv (.t 23)⟩] [1, 8, 22]) (.cond (.t 22) (.region [⟨some 3, none, .mv (.c (.d true (.str ⟨#[112, 117, 98]⟩)))⟩] [1, 3]) (.seq (.region [⟨some 25, none, .bin .eql (.t 8) (.c (.d true (.int .i64 5)))⟩, ⟨some 24, none, .mv (.t 25)⟩] [1, 8, 24]) (.cond (.t 24) (.region [⟨some 3, none, .mv (.c (.d true (.str ⟨#[115, 104, 97, 114, 101]⟩)))⟩] [1, 3]) (.seq (.region [⟨some 27, none, .bin .eql (.t 8) (.c (.d true (.int .i64 6)))⟩, ⟨some 26, none, .mv (.t 27)⟩] [1, 8, 26]) (.cond (.t 26) (.region [⟨some 3, none, .mv (.c (.d true (.str ⟨#[104, 97, 115, 104]⟩)))⟩] [1, 3]) (.seq (.region [⟨some 29, none, .bin .eql (.t 8) (.c (.d true (.int .i64 7)))⟩, ⟨some 28, none, .mv (.t 29)⟩] [1, 8, 28]) (.cond (.t 28) (.region [⟨some 3, none, .mv (.c (.d true (.str ⟨#[115, 101, 97, 108]⟩)))⟩] [1, 3]) (.seq (.region [⟨some 31, none, .bin .eql (.t 8) (.c (.d true (.int .i64 8)))⟩, ⟨some 30, none, .mv (.t 31)⟩] [1, 30]) (.cond (.t 30) (.region [⟨some 3, none, .mv (.c (.d true (.str ⟨#[115, 105, 103, 110]⟩)))⟩] [1, 3]) (.seq (.region [⟨some 2, none, .mv (.c (.d true (.str ⟨#[63]⟩)))⟩] [2]) (.ret)))))))))))))))))))) (.seq (.region [⟨some 32, none, .bs 9 1 []⟩, ⟨some 4, none, .mv (.t 32)⟩] [1, 3, 4]) (.seq (.seq (.region [⟨some 33, none, .fa 3 (.t 1)⟩, ⟨some 34, none, .ld none (.t 33)⟩, ⟨some 35, none, .len (.t 34)⟩, ⟨some 36, none, .mv (.c (.d true (.int .i64 0)))⟩] [3, 4, 34, 35, 36]) (.block 1 (.loop (.seq (.region [⟨some 37, none, .bin .lss (.t 36) (.t 35)⟩] [3, 4, 34, 35, 36, 37]) (.seq (.cond (.t 37) (.skip) (.exit 1)) (.seq (.block 2 (.seq (.region [⟨some 38, none, .ia 4 (.t 34) (.t 36)⟩, ⟨some 39, none, .ld (some 4) (.t 38)⟩, ⟨some 6, none, .alloc [.d true (.int .i64 0), .d true (.int .i64 0), .d true (.str ⟨#[]⟩), .nil]⟩, ⟨none, none, .st 4 (.t 6) (.t 39)⟩] [3, 4, 6, 34, 35, 36]) (.region [⟨some 40, none, .mv (.t 4)⟩, ⟨some 41, none, .ld (some 4) (.t 6)⟩, ⟨some 42, none, .call (.c (.fn 27 [])) [.t 41]⟩, ⟨some 43, none, .bs 9 1 [.t 42]⟩, ⟨some 44, none, .app 9 1 16 (.t 40) (.t 43)⟩, ⟨some 4, none, .mv (.t 44)⟩] [3, 4, 34, 35, 36]))) (.region [⟨some 45, none, .bin .add (.t 36) (.c (.d true (.int .i64 1)))⟩, ⟨some 36, none, .mv (.t 45)⟩] [3, 4, 34, 35, 36]))))))) (.seq (.region [⟨some 46, none, .mv (.t 3)⟩, ⟨some 47, none, .bin .add (.t 46) (.c (.d true (.str ⟨#[40]⟩)))⟩, ⟨some 48, none, .mv (.t 4)⟩, ⟨some 49, none, .call (.c (.fn 75 [])) [.t 48, .c (.d true (.str ⟨#[44]⟩))]⟩, ⟨some 50, none, .bin .add (.t 47) (.t 49)⟩, ⟨some 51, none, .bin .add (.t 50) (.c (.d true (.str ⟨#[41]⟩)))⟩, ⟨some 2, none, .mv (.t 51)⟩] [2]) (.ret))))))
theorem ok27 : FnOk Tryd.prog Tryd.f27 52 keep27 ac27 [.t 2] := by
  refine ⟨?_, ?_, ?_, ?_, ?_⟩ <;> kernel_rfl

/-! laws.eqTerm -/
def keep28 : Nat → List Nat
  | 0 => [2, 3]
  | 1 => [2, 3, 9]
  | 2 => [4]
  | 3 => [2, 3, 14]
  | 4 => [4]
  | 5 => [2, 3, 19]
  | 6 => [4]
  | 7 => [25]
  | 8 => [4]
  | 9 => [4]
  | _ => []
def ac28 : AC := .seq (.region [⟨some 2, none, .box (.t 0)⟩, ⟨some 3, none, .box (.t 1)⟩, ⟨some 4, none, .mv (.c (.d true (.bool false)))⟩] [2, 3]) (.seq (.seq (.region [⟨some 5, none, .fa 0 (.t 2)⟩, ⟨some 6, none, .ld none (.t 5)⟩, ⟨some 7, none, .fa 0 (.t 3)⟩, ⟨some 8, none, .ld none (.t 7)⟩, ⟨some 9, none, .bin .neq (.t 6) (.t 8)⟩] [2, 3, 9]) (.cond (.t 9) (.seq (.region [⟨some 4, none, .mv (.c (.d true (.bool false)))⟩] [4]) (.ret)) (.skip))) (.seq (.seq (.region [⟨some 10, none, .fa 1 (.t 2)⟩, ⟨some 11, none, .ld none (.t 10)⟩, ⟨some 12, none, .fa 1 (.t 3)⟩, ⟨some 13, none, .ld none (.t 12)⟩, ⟨some 14, none, .bin .neq (.t 11) (.t 13)⟩] [2, 3, 14]) (.cond (.t 14) (.seq (.region [⟨some 4, none, .mv (.c (.d true (.bool false)))⟩] [4]) (.ret)) (.skip))) (.seq (.seq (.region [⟨some 15, none, .fa 2 (.t 2)⟩, ⟨some 16, none, .ld none (.t 15)⟩, ⟨some 17, none, .fa 2 (.t 3)⟩, ⟨some 18, none, .ld none (.t 17)⟩, ⟨some 19, none, .bin .neq (.t 16) (.t 18)⟩] [2, 3, 19]) (.cond (.t 19) (.seq (.region [⟨some 4, none, .mv (.c (.d true (.bool false)))⟩] [4]) (.ret)) (.skip))) (.seq (.seq (.region [⟨some 20, none, .fa 3 (.t 2)⟩, ⟨some 21, none, .ld none (.t 20)⟩, ⟨some 22, none, .fa 3 (.t 3)⟩, ⟨some 23, none, .ld none (.t 22)⟩, ⟨some 24, none, .call (.c (.fn 76 [])) [.t 21, .t 23]⟩, ⟨some 25, none, .not (.t 24)⟩] [25]) (.cond (.t 25) (.seq (.region [⟨some 4, none, .mv (.c (.d true (.bool false)))⟩] [4]) (.ret)) (.skip))) (.seq (.region [⟨some 4, none, .mv (.c (.d true (.bool true)))⟩] [4]) (.ret))))))
theorem ok28 : FnOk Tryd.prog Tryd.f28 26 keep28 ac28 [.t 4] := by
  refine ⟨?_, ?_, ?_, ?_, ?_⟩ <;> kernel_rfl

/-! spec.May -/
def keep29 : Nat → List Nat
  | 0 => [1, 2, 3]
  | 1 => [1, 3, 11]
  | 2 => [6]
  | 3 => [1, 3, 7]
  | 4 => [1, 3, 7, 16]
  | 5 => [1, 3, 7]
  | 6 => [1, 3, 7, 25]
  | 7 => [6]
  | 8 => [6]
  | _ => []
def ac29 : AC := .seq (.region [⟨some 3, none, .box (.t 0)⟩, ⟨some 6, none, .mv (.c (.d true (.bool false)))⟩] [1, 2, 3]) (.seq (.seq (.region [⟨some 8, none, .ld (some 4) (.t 3)⟩, ⟨some 9, none, .mv (.t 2)⟩, ⟨some 10, none, .call (.c (.fn 77 [])) [.t 8, .t 9]⟩, ⟨some 11, none, .not (.t 10)⟩] [1, 3, 11]) (.cond (.t 11) (.seq (.region [⟨some 6, none, .mv (.c (.d true (.bool true)))⟩] [6]) (.ret)) (.skip))) (.seq (.seq (.region [⟨some 7, none, .mv (.c (.d true (.int .i64 0)))⟩] [1, 3, 7]) (.block 0 (.loop (.seq (.seq (.region [⟨some 12, none, .mv (.t 7)⟩, ⟨some 13, none, .fa 2 (.t 3)⟩, ⟨some 14, none, .ld none (.t 13)⟩, ⟨some 15, none, .len (.t 14)⟩, ⟨some 16, none, .bin .lss (.t 12) (.t 15)⟩] [1, 3, 7, 16]) (.cond (.t 16) (.skip) (.exit 0))) (.seq (.block 1 (.seq (.region [⟨some 19, none, .fa 2 (.t 3)⟩, ⟨some 20, none, .ld none (.t 19)⟩, ⟨some 21, none, .mv (.t 7)⟩, ⟨some 22, none, .ia 1 (.t 20) (.t 21)⟩, ⟨some 23, none, .ld none (.t 22)⟩, ⟨some 24, none, .mv (.t 1)⟩, ⟨some 25, none, .call (.c (.fn 17 [])) [.t 23, .t 24]⟩] [1, 3, 7, 25]) (.cond (.t 25) (.seq (.region [⟨some 6, none, .mv (.c (.d true (.bool true)))⟩] [6]) (.ret)) (.skip)))) (.region [⟨some 17, none, .mv (.t 7)⟩, ⟨some 18, none, .bin .add (.t 17) (.c (.d true (.int .i64 1)))⟩, ⟨some 7, none, .mv (.t 18)⟩] [1, 3, 7])))))) (.seq (.region [⟨some 6, none, .mv (.c (.d true (.bool false)))⟩] [6]) (.ret))))
theorem ok29 : FnOk Tryd.prog Tryd.f29 26 keep29 ac29 [.t 6] := by
  refine ⟨?_, ?_, ?_, ?_, ?_⟩ <;> kernel_rfl

/-! impl.May -/
def keep30 : Nat → List Nat
  | 0 => [2, 3, 4]
  | 1 => [6]
  | _ => []
def ac30 : AC := .seq (.region [⟨some 3, none, .box (.t 0)⟩, ⟨some 4, none, .box (.t 1)⟩, ⟨some 6, none, .mv (.c (.d true (.bool false)))⟩] [2, 3, 4]) (.seq (.region [⟨some 7, none, .ld (some 4) (.t 3)⟩, ⟨some 8, none, .mv (.t 2)⟩, ⟨some 9, none, .call (.c (.fn 78 [])) [.t 7, .t 8]⟩, ⟨some 10, none, .not (.t 9)⟩, ⟨some 11, none, .mv (.t 10)⟩, ⟨some 12, some (11, false), .fa 2 (.t 3)⟩, ⟨some 13, some (11, false), .ld none (.t 12)⟩, ⟨some 14, some (11, false), .mkf 79 [.t 4]⟩, ⟨some 15, some (11, false), .call (.c (.fn 67 [])) [.t 13, .t 14]⟩, ⟨some 16, none, .pick (.t 11) (.c (.d true (.bool true))) (.t 15)⟩, ⟨some 6, none, .mv (.t 16)⟩] [6]) (.ret))
theorem ok30 : FnOk Tryd.prog Tryd.f30 17 keep30 ac30 [.t 6] := by
  refine ⟨?_, ?_, ?_, ?_, ?_⟩ <;> kernel_rfl

/-! laws.szPolicyS -/
def keep31 : Nat → List Nat
  | 0 => [0, 1]
  | 1 => [0, 1]
  | 2 => [0, 1, 11]
  | 3 => [4]
  | 4 => [0, 1, 5]
  | 5 => [0, 1, 5, 15]
  | 6 => [0, 1, 5]
  | 7 => [0, 1, 5]
  | 8 => [0, 1, 5, 25]
  | 9 => [4]
  | 10 => [4]
  | _ => []
def ac31 : AC := .seq (.region [⟨some 4, none, .mv (.c (.d true (.int .i64 0)))⟩] [0, 1]) (.seq (.region [⟨some 6, none, .mv (.t 1)⟩, ⟨some 7, none, .mv (.t 0)⟩, ⟨some 8, none, .len (.t 7)⟩, ⟨some 9, none, .bin .sub (.t 6) (.t 8)⟩, ⟨some 1, none, .mv (.t 9)⟩] [0, 1]) (.seq (.seq (.region [⟨some 10, none, .mv (.t 1)⟩, ⟨some 11, none, .bin .lss (.t 10) (.c (.d true (.int .i64 0)))⟩] [0, 1, 11]) (.cond (.t 11) (.seq (.region [⟨some 4, none, .mv (.c (.d true (.int .i64 (-1))))⟩] [4]) (.ret)) (.skip))) (.seq (.seq (.region [⟨some 5, none, .mv (.c (.d true (.int .i64 0)))⟩] [0, 1, 5]) (.block 0 (.loop (.seq (.seq (.region [⟨some 12, none, .mv (.t 5)⟩, ⟨some 13, none, .mv (.t 0)⟩, ⟨some 14, none, .len (.t 13)⟩, ⟨some 15, none, .bin .lss (.t 12) (.t 14)⟩] [0, 1, 5, 15]) (.cond (.t 15) (.skip) (.exit 0))) (.seq (.block 1 (.seq (.region [⟨some 18, none, .mv (.t 0)⟩, ⟨some 19, none, .mv (.t 5)⟩, ⟨some 20, none, .ia 4 (.t 18) (.t 19)⟩, ⟨some 21, none, .ld (some 4) (.t 20)⟩, ⟨some 22, none, .mv (.t 1)⟩, ⟨some 23, none, .call (.c (.fn 19 [])) [.t 21, .t 22]⟩, ⟨some 1, none, .mv (.t 23)⟩] [0, 1, 5]) (.seq (.region [⟨some 24, none, .mv (.t 1)⟩, ⟨some 25, none, .bin .lss (.t 24) (.c (.d true (.int .i64 0)))⟩] [0, 1, 5, 25]) (.cond (.t 25) (.seq (.region [⟨some 4, none, .mv (.c (.d true (.int .i64 (-1))))⟩] [4]) (.ret)) (.skip))))) (.region [⟨some 16, none, .mv (.t 5)⟩, ⟨some 17, none, .bin .add (.t 16) (.c (.d true (.int .i64 1)))⟩, ⟨some 5, none, .mv (.t 17)⟩] [0, 1, 5])))))) (.seq (.region [⟨some 26, none, .mv (.t 1)⟩, ⟨some 4, none, .mv (.t 26)⟩] [4]) (.ret)))))
theorem ok31 : FnOk Tryd.prog Tryd.f31 27 keep31 ac31 [.t 4] := by
  refine ⟨?_, ?_, ?_, ?_, ?_⟩ <;> kernel_rfl

/-! spec.CacheOk -/
def keep32 : Nat → List Nat
  | 0 => [0]
  | 1 => [0, 3]
  | 2 => [0, 3, 7]
  | 3 => [0, 3]
  | 4 => [0, 3, 33]
  | 5 => [2]
  | 6 => [2]
  | _ => []
def ac32 : AC := .seq (.region [⟨some 2, none, .mv (.c (.d true (.bool false)))⟩] [0]) (.seq (.seq (.region [⟨some 3, none, .mv (.c (.d true (.int .i64 0)))⟩] [0, 3]) (.block 0 (.loop (.seq (.seq (.region [⟨some 4, none, .mv (.t 3)⟩, ⟨some 5, none, .mv (.t 0)⟩, ⟨some 6, none, .len (.t 5)⟩, ⟨some 7, none, .bin .lss (.t 4) (.t 6)⟩] [0, 3, 7]) (.cond (.t 7) (.skip) (.exit 0))) (.seq (.block 1 (.seq (.draw [⟨some 10, none, .mv (.t 0)⟩, ⟨some 11, none, .mv (.t 3)⟩, ⟨some 12, none, .ia 4 (.t 10) (.t 11)⟩, ⟨some 13, none, .ld (some 4) (.t 12)⟩, ⟨some 14, none, .call (.c (.fn 20 [])) [.t 13]⟩, ⟨some 15, none, .not (.t 14)⟩, ⟨some 16, none, .mv (.t 15)⟩, ⟨some 17, some (16, false), .mv (.t 3)⟩, ⟨some 18, some (16, false), .bin .gtr (.t 17) (.c (.d true (.int .i64 0)))⟩, ⟨some 19, some (16, false), .mv (.t 18)⟩, ⟨some 20, some (19, true), .mv (.t 0)⟩, ⟨some 21, some (19, true), .mv (.t 3)⟩, ⟨some 22, some (19, true), .bin .sub (.t 21) (.c (.d true (.int .i64 1)))⟩, ⟨some 23, some (19, true), .ia 4 (.t 20) (.t 22)⟩, ⟨some 24, some (19, true), .fa 0 (.t 23)⟩, ⟨some 25, some (19, true), .ld none (.t 24)⟩, ⟨some 26, some (19, true), .mv (.t 0)⟩, ⟨some 27, some (19, true), .mv (.t 3)⟩, ⟨some 28, some (19, true), .ia 4 (.t 26) (.t 27)⟩, ⟨some 29, some (19, true), .fa 0 (.t 28)⟩, ⟨some 30, some (19, true), .ld none (.t 29)⟩, ⟨some 31, some (19, true), .bin .geq (.t 25) (.t 30)⟩, ⟨some 32, some (16, false), .pick (.t 19) (.t 31) (.c (.d true (.bool false)))⟩, ⟨some 33, none, .pick (.t 16) (.c (.d true (.bool true))) (.t 32)⟩] [0, 3, 33]) (.cond (.t 33) (.seq (.region [⟨some 2, none, .mv (.c (.d true (.bool false)))⟩] [2]) (.ret)) (.skip)))) (.region [⟨some 8, none, .mv (.t 3)⟩, ⟨some 9, none, .bin .add (.t 8) (.c (.d true (.int .i64 1)))⟩, ⟨some 3, none, .mv (.t 9)⟩] [0, 3])))))) (.seq (.region [⟨some 34, none, .mv (.t 0)⟩, ⟨some 35, none, .len (.t 34)⟩, ⟨some 36, none, .bin .leq (.t 35) (.c (.d true (.int .i64 10)))⟩, ⟨some 2, none, .mv (.t 36)⟩] [2]) (.ret)))
theorem ok32 : FnOk Tryd.prog Tryd.f32 37 keep32 ac32 [.t 2] := by
  refine ⟨?_, ?_, ?_, ?_, ?_⟩ <;> kernel_rfl

/-! laws.toPolicyS -/
def keep33 : Nat → List Nat
  | 0 => [0]
  | 1 => [0, 3]
  | 2 => [0, 3, 4]
  | 3 => [0, 3, 4, 11]
  | 4 => [0, 3, 4]
  | 5 => [0, 3, 4]
  | 6 => [2]
  | _ => []
def ac33 : AC := .seq (.region [⟨some 2, none, .own 29 4⟩] [0]) (.seq (.region [⟨some 5, none, .mv (.t 0)⟩, ⟨some 6, none, .len (.t 5)⟩, ⟨some 7, none, .mks 29 4 56 [.d true (.str ⟨#[]⟩), .d true (.int .i64 0), .nil, .d true (.int .i64 0)] (.t 6) (.t 6)⟩, ⟨some 3, none, .mv (.t 7)⟩] [0, 3]) (.seq (.seq (.region [⟨some 4, none, .mv (.c (.d true (.int .i64 0)))⟩] [0, 3, 4]) (.block 0 (.loop (.seq (.seq (.region [⟨some 8, none, .mv (.t 4)⟩, ⟨some 9, none, .mv (.t 0)⟩, ⟨some 10, none, .len (.t 9)⟩, ⟨some 11, none, .bin .lss (.t 8) (.t 10)⟩] [0, 3, 4, 11]) (.cond (.t 11) (.skip) (.exit 0))) (.seq (.block 1 (.region [⟨some 14, none, .mv (.t 3)⟩, ⟨some 15, none, .mv (.t 4)⟩, ⟨some 16, none, .mv (.t 0)⟩, ⟨some 17, none, .mv (.t 4)⟩, ⟨some 18, none, .ia 4 (.t 16) (.t 17)⟩, ⟨some 19, none, .ld (some 4) (.t 18)⟩, ⟨some 20, none, .call (.c (.fn 21 [])) [.t 19]⟩, ⟨some 21, none, .ia 4 (.t 14) (.t 15)⟩, ⟨none, none, .st 4 (.t 21) (.t 20)⟩] [0, 3, 4])) (.region [⟨some 12, none, .mv (.t 4)⟩, ⟨some 13, none, .bin .add (.t 12) (.c (.d true (.int .i64 1)))⟩, ⟨some 4, none, .mv (.t 13)⟩] [0, 3, 4])))))) (.seq (.region [⟨some 22, none, .mv (.t 3)⟩, ⟨some 2, none, .mv (.t 22)⟩] [2]) (.ret))))
theorem ok33 : FnOk Tryd.prog Tryd.f33 23 keep33 ac33 [.t 2] := by
  refine ⟨?_, ?_, ?_, ?_, ?_⟩ <;> kernel_rfl

/-! impl.CacheOk -/
def keep34 : Nat → List Nat
  | 0 => [0]
  | 1 => [0, 5, 6, 7]
  | 2 => [0, 5, 6, 7, 8]
  | 3 => [0, 3, 4, 5, 6, 7]
  | 4 => [0, 5, 6, 7, 29]
  | 5 => [2]
  | 6 => [0, 5, 6, 7]
  | 7 => [2]
  | _ => []
def ac34 : AC := .seq (.region [⟨some 2, none, .mv (.c (.d true (.bool false)))⟩] [0]) (.seq (.seq (.region [⟨some 5, none, .mv (.t 0)⟩, ⟨some 6, none, .len (.t 5)⟩, ⟨some 7, none, .mv (.c (.d true (.int .i64 0)))⟩] [0, 5, 6, 7]) (.block 0 (.loop (.seq (.region [⟨some 8, none, .bin .lss (.t 7) (.t 6)⟩] [0, 5, 6, 7, 8]) (.seq (.cond (.t 8) (.skip) (.exit 0)) (.seq (.block 1 (.seq (.region [⟨some 9, none, .mv (.t 7)⟩, ⟨some 10, none, .ia 4 (.t 5) (.t 7)⟩, ⟨some 11, none, .ld (some 4) (.t 10)⟩, ⟨some 4, none, .alloc [.d true (.str ⟨#[]⟩), .d true (.int .i64 0), .nil, .d true (.int .i64 0)]⟩, ⟨some 3, none, .mv (.t 9)⟩, ⟨none, none, .st 4 (.t 4) (.t 11)⟩] [0, 3, 4, 5, 6, 7]) (.seq (.draw [⟨some 12, none, .ld (some 4) (.t 4)⟩, ⟨some 13, none, .call (.c (.fn 22 [])) [.t 12]⟩, ⟨some 14, none, .not (.t 13)⟩, ⟨some 15, none, .mv (.t 14)⟩, ⟨some 16, some (15, false), .mv (.t 3)⟩, ⟨some 17, some (15, false), .bin .gtr (.t 16) (.c (.d true (.int .i64 0)))⟩, ⟨some 18, some (15, false), .mv (.t 17)⟩, ⟨some 19, some (18, true), .mv (.t 0)⟩, ⟨some 20, some (18, true), .mv (.t 3)⟩, ⟨some 21, some (18, true), .bin .sub (.t 20) (.c (.d true (.int .i64 1)))⟩, ⟨some 22, some (18, true), .ia 4 (.t 19) (.t 21)⟩, ⟨some 23, some (18, true), .fa 0 (.t 22)⟩, ⟨some 24, some (18, true), .ld none (.t 23)⟩, ⟨some 25, some (18, true), .fa 0 (.t 4)⟩, ⟨some 26, some (18, true), .ld none (.t 25)⟩, ⟨some 27, some (18, true), .bin .geq (.t 24) (.t 26)⟩, ⟨some 28, some (15, false), .pick (.t 18) (.t 27) (.c (.d true (.bool false)))⟩, ⟨some 29, none, .pick (.t 15) (.c (.d true (.bool true))) (.t 28)⟩] [0, 5, 6, 7, 29]) (.cond (.t 29) (.seq (.region [⟨some 2, none, .mv (.c (.d true (.bool false)))⟩] [2]) (.ret)) (.skip))))) (.region [⟨some 30, none, .bin .add (.t 7) (.c (.d true (.int .i64 1)))⟩, ⟨some 7, none, .mv (.t 30)⟩] [0, 5, 6, 7]))))))) (.seq (.region [⟨some 31, none, .mv (.t 0)⟩, ⟨some 32, none, .len (.t 31)⟩, ⟨some 33, none, .bin .leq (.t 32) (.c (.d true (.int .i64 10)))⟩, ⟨some 2, none, .mv (.t 33)⟩] [2]) (.ret)))
theorem ok34 : FnOk Tryd.prog Tryd.f34 34 keep34 ac34 [.t 2] := by
  refine ⟨?_, ?_, ?_, ?_, ?_⟩ <;> kernel_rfl

/-! laws.eqPolicyS -/
def keep35 : Nat → List Nat
  | 0 => [0, 1]
  | 1 => [0, 1, 10]
  | 2 => [4]
  | 3 => [0, 1, 5]
  | 4 => [0, 1, 5, 14]
  | 5 => [0, 1, 5]
  | 6 => [0, 1, 5, 26]
  | 7 => [4]
  | 8 => [4]
  | _ => []
def ac35 : AC := .seq (.region [⟨some 4, none, .mv (.c (.d true (.bool false)))⟩] [0, 1]) (.seq (.seq (.region [⟨some 6, none, .mv (.t 0)⟩, ⟨some 7, none, .len (.t 6)⟩, ⟨some 8, none, .mv (.t 1)⟩, ⟨some 9, none, .len (.t 8)⟩, ⟨some 10, none, .bin .neq (.t 7) (.t 9)⟩] [0, 1, 10]) (.cond (.t 10) (.seq (.region [⟨some 4, none, .mv (.c (.d true (.bool false)))⟩] [4]) (.ret)) (.skip))) (.seq (.seq (.region [⟨some 5, none, .mv (.c (.d true (.int .i64 0)))⟩] [0, 1, 5]) (.block 0 (.loop (.seq (.seq (.region [⟨some 11, none, .mv (.t 5)⟩, ⟨some 12, none, .mv (.t 0)⟩, ⟨some 13, none, .len (.t 12)⟩, ⟨some 14, none, .bin .lss (.t 11) (.t 13)⟩] [0, 1, 5, 14]) (.cond (.t 14) (.skip) (.exit 0))) (.seq (.block 1 (.seq (.draw [⟨some 17, none, .mv (.t 0)⟩, ⟨some 18, none, .mv (.t 5)⟩, ⟨some 19, none, .ia 4 (.t 17) (.t 18)⟩, ⟨some 20, none, .ld (some 4) (.t 19)⟩, ⟨some 21, none, .mv (.t 1)⟩, ⟨some 22, none, .mv (.t 5)⟩, ⟨some 23, none, .ia 4 (.t 21) (.t 22)⟩, ⟨some 24, none, .ld (some 4) (.t 23)⟩, ⟨some 25, none, .call (.c (.fn 23 [])) [.t 20, .t 24]⟩, ⟨some 26, none, .not (.t 25)⟩] [0, 1, 5, 26]) (.cond (.t 26) (.seq (.region [⟨some 4, none, .mv (.c (.d true (.bool false)))⟩] [4]) (.ret)) (.skip)))) (.region [⟨some 15, none, .mv (.t 5)⟩, ⟨some 16, none, .bin .add (.t 15) (.c (.d true (.int .i64 1)))⟩, ⟨some 5, none, .mv (.t 16)⟩] [0, 1, 5])))))) (.seq (.region [⟨some 4, none, .mv (.c (.d true (.bool true)))⟩] [4]) (.ret))))
theorem ok35 : FnOk Tryd.prog Tryd.f35 27 keep35 ac35 [.t 4] := by
  refine ⟨?_, ?_, ?_, ?_, ?_⟩ <;> kernel_rfl

/-! laws.szCert -/
def keep36 : Nat → List Nat
  | 0 => [1, 2]
  | 1 => [1, 2]
  | 2 => [1, 2, 11]
  | 3 => [4]
  | 4 => [1]
  | 5 => [1, 17]
  | 6 => [4]
  | 7 => [4]
  | _ => []
def ac36 : AC := .seq (.region [⟨some 2, none, .box (.t 0)⟩, ⟨some 4, none, .mv (.c (.d true (.int .i64 0)))⟩] [1, 2]) (.seq (.region [⟨some 5, none, .mv (.t 1)⟩, ⟨some 6, none, .fa 0 (.t 2)⟩, ⟨some 7, none, .ld none (.t 6)⟩, ⟨some 8, none, .slen (.t 7)⟩, ⟨some 9, none, .bin .sub (.t 5) (.t 8)⟩, ⟨some 1, none, .mv (.t 9)⟩] [1, 2]) (.seq (.seq (.region [⟨some 10, none, .mv (.t 1)⟩, ⟨some 11, none, .bin .lss (.t 10) (.c (.d true (.int .i64 0)))⟩] [1, 2, 11]) (.cond (.t 11) (.seq (.region [⟨some 4, none, .mv (.c (.d true (.int .i64 (-1))))⟩] [4]) (.ret)) (.skip))) (.seq (.region [⟨some 12, none, .fa 1 (.t 2)⟩, ⟨some 13, none, .ld (some 4) (.t 12)⟩, ⟨some 14, none, .mv (.t 1)⟩, ⟨some 15, none, .call (.c (.fn 24 [])) [.t 13, .t 14]⟩, ⟨some 1, none, .mv (.t 15)⟩] [1]) (.seq (.seq (.region [⟨some 16, none, .mv (.t 1)⟩, ⟨some 17, none, .bin .lss (.t 16) (.c (.d true (.int .i64 0)))⟩] [1, 17]) (.cond (.t 17) (.seq (.region [⟨some 4, none, .mv (.c (.d true (.int .i64 (-1))))⟩] [4]) (.ret)) (.skip))) (.seq (.region [⟨some 18, none, .mv (.t 1)⟩, ⟨some 4, none, .mv (.t 18)⟩] [4]) (.ret))))))
theorem ok36 : FnOk Tryd.prog Tryd.f36 19 keep36 ac36 [.t 4] := by
  refine ⟨?_, ?_, ?_, ?_, ?_⟩ <;> kernel_rfl

/-! spec.CertOk -/
def keep37 : Nat → List Nat
  | 0 => [1]
  | 1 => [2]
  | _ => []
def ac37 : AC := .seq (.region [⟨some 1, none, .box (.t 0)⟩, ⟨some 2, none, .mv (.c (.d true (.bool false)))⟩] [1]) (.seq (.region [⟨some 3, none, .fa 0 (.t 1)⟩, ⟨some 4, none, .ld none (.t 3)⟩, ⟨some 5, none, .call (.c (.fn 53 [])) [.t 4]⟩, ⟨some 6, none, .mv (.t 5)⟩, ⟨some 7, some (6, true), .fa 1 (.t 1)⟩, ⟨some 8, some (6, true), .fa 0 (.t 7)⟩, ⟨some 9, some (6, true), .ld none (.t 8)⟩, ⟨some 10, some (6, true), .bin .eql (.t 9) (.c (.d true (.int .i64 4)))⟩, ⟨some 11, none, .pick (.t 6) (.t 10) (.c (.d true (.bool false)))⟩, ⟨some 12, none, .mv (.t 11)⟩, ⟨some 13, some (12, true), .fa 1 (.t 1)⟩, ⟨some 14, some (12, true), .ld (some 4) (.t 13)⟩, ⟨some 15, some (12, true), .call (.c (.fn 80 [])) [.t 14]⟩, ⟨some 16, none, .pick (.t 12) (.t 15) (.c (.d true (.bool false)))⟩, ⟨some 17, none, .mv (.t 16)⟩, ⟨some 18, some (17, true), .fa 5 (.t 1)⟩, ⟨some 19, some (17, true), .ld none (.t 18)⟩, ⟨some 20, some (17, true), .call (.c (.fn 63 [])) [.t 19, .c (.d true (.int .i64 0)), .c (.d true (.int .i64 100000))]⟩, ⟨some 21, none, .pick (.t 17) (.t 20) (.c (.d true (.bool false)))⟩, ⟨some 2, none, .mv (.t 21)⟩] [2]) (.ret))
theorem ok37 : FnOk Tryd.prog Tryd.f37 22 keep37 ac37 [.t 2] := by
  refine ⟨?_, ?_, ?_, ?_, ?_⟩ <;> kernel_rfl

/-! laws.toCert -/
def keep38 : Nat → List Nat
  | 0 => [1, 2]
  | 1 => [1, 2, 3]
  | 2 => [1, 2, 3]
  | 3 => [1, 2, 3]
  | 4 => [2, 3]
  | 5 => [2]
  | _ => []
def ac38 : AC := .seq (.region [⟨some 1, none, .box (.t 0)⟩, ⟨some 2, none, .alloc [.d true (.str ⟨#[]⟩), .d true (.int .i64 0), .d true (.int .i64 0), .d true (.str ⟨#[]⟩), .nil, .d true (.int .i64 0)]⟩] [1, 2]) (.seq (.region [⟨some 3, none, .alloc [.d true (.str ⟨#[]⟩), .d true (.int .i64 0), .d true (.int .i64 0), .d true (.str ⟨#[]⟩), .nil, .d true (.int .i64 0)]⟩] [1, 2, 3]) (.seq (.region [⟨some 4, none, .fa 0 (.t 1)⟩, ⟨some 5, none, .ld none (.t 4)⟩, ⟨some 6, none, .fa 0 (.t 3)⟩, ⟨none, none, .st 1 (.t 6) (.t 5)⟩] [1, 2, 3]) (.seq (.region [⟨some 7, none, .fa 1 (.t 1)⟩, ⟨some 8, none, .ld (some 4) (.t 7)⟩, ⟨some 9, none, .call (.c (.fn 26 [])) [.t 8]⟩, ⟨some 10, none, .fa 1 (.t 3)⟩, ⟨none, none, .st 4 (.t 10) (.t 9)⟩] [1, 2, 3]) (.seq (.region [⟨some 11, none, .fa 5 (.t 1)⟩, ⟨some 12, none, .ld none (.t 11)⟩, ⟨some 13, none, .fa 5 (.t 3)⟩, ⟨none, none, .st 1 (.t 13) (.t 12)⟩] [2, 3]) (.seq (.region [⟨some 14, none, .ld (some 6) (.t 3)⟩, ⟨none, none, .st 6 (.t 2) (.t 14)⟩] [2]) (.ret))))))
theorem ok38 : FnOk Tryd.prog Tryd.f38 15 keep38 ac38 [.c 2 (some 6)] := by
  refine ⟨?_, ?_, ?_, ?_, ?_⟩ <;> kernel_rfl

/-! impl.CertOk -/
def keep39 : Nat → List Nat
  | 0 => [1]
  | 1 => [2]
  | _ => []
def ac39 : AC := .seq (.region [⟨some 1, none, .box (.t 0)⟩, ⟨some 2, none, .mv (.c (.d true (.bool false)))⟩] [1]) (.seq (.region [⟨some 3, none, .fa 0 (.t 1)⟩, ⟨some 4, none, .ld none (.t 3)⟩, ⟨some 5, none, .call (.c (.fn 58 [])) [.t 4]⟩, ⟨some 6, none, .mv (.t 5)⟩, ⟨some 7, some (6, true), .fa 1 (.t 1)⟩, ⟨some 8, some (6, true), .fa 0 (.t 7)⟩, ⟨some 9, some (6, true), .ld none (.t 8)⟩, ⟨some 10, some (6, true), .bin .eql (.t 9) (.c (.d true (.int .i64 4)))⟩, ⟨some 11, none, .pick (.t 6) (.t 10) (.c (.d true (.bool false)))⟩, ⟨some 12, none, .mv (.t 11)⟩, ⟨some 13, some (12, true), .fa 1 (.t 1)⟩, ⟨some 14, some (12, true), .ld (some 4) (.t 13)⟩, ⟨some 15, some (12, true), .call (.c (.fn 81 [])) [.t 14]⟩, ⟨some 16, none, .pick (.t 12) (.t 15) (.c (.d true (.bool false)))⟩, ⟨some 17, none, .mv (.t 16)⟩, ⟨some 18, some (17, true), .fa 5 (.t 1)⟩, ⟨some 19, some (17, true), .ld none (.t 18)⟩, ⟨some 20, some (17, true), .call (.c (.fn 66 [])) [.t 19, .c (.d true (.int .i64 0)), .c (.d true (.int .i64 100000))]⟩, ⟨some 21, none, .pick (.t 17) (.t 20) (.c (.d true (.bool false)))⟩, ⟨some 2, none, .mv (.t 21)⟩] [2]) (.ret))
theorem ok39 : FnOk Tryd.prog Tryd.f39 22 keep39 ac39 [.t 2] := by
  refine ⟨?_, ?_, ?_, ?_, ?_⟩ <;> kernel_rfl

/-! laws.eqCert -/
def keep40 : Nat → List Nat
  | 0 => [2, 3]
  | 1 => [2, 3, 9]
  | 2 => [4]
  | 3 => [2, 3, 15]
  | 4 => [4]
  | 5 => [20]
  | 6 => [4]
  | 7 => [4]
  | _ => []
def ac40 : AC := .seq (.region [⟨some 2, none, .box (.t 0)⟩, ⟨some 3, none, .box (.t 1)⟩, ⟨some 4, none, .mv (.c (.d true (.bool false)))⟩] [2, 3]) (.seq (.seq (.region [⟨some 5, none, .fa 0 (.t 2)⟩, ⟨some 6, none, .ld none (.t 5)⟩, ⟨some 7, none, .fa 0 (.t 3)⟩, ⟨some 8, none, .ld none (.t 7)⟩, ⟨some 9, none, .bin .neq (.t 6) (.t 8)⟩] [2, 3, 9]) (.cond (.t 9) (.seq (.region [⟨some 4, none, .mv (.c (.d true (.bool false)))⟩] [4]) (.ret)) (.skip))) (.seq (.seq (.region [⟨some 10, none, .fa 1 (.t 2)⟩, ⟨some 11, none, .ld (some 4) (.t 10)⟩, ⟨some 12, none, .fa 1 (.t 3)⟩, ⟨some 13, none, .ld (some 4) (.t 12)⟩, ⟨some 14, none, .call (.c (.fn 28 [])) [.t 11, .t 13]⟩, ⟨some 15, none, .not (.t 14)⟩] [2, 3, 15]) (.cond (.t 15) (.seq (.region [⟨some 4, none, .mv (.c (.d true (.bool false)))⟩] [4]) (.ret)) (.skip))) (.seq (.seq (.region [⟨some 16, none, .fa 5 (.t 2)⟩, ⟨some 17, none, .ld none (.t 16)⟩, ⟨some 18, none, .fa 5 (.t 3)⟩, ⟨some 19, none, .ld none (.t 18)⟩, ⟨some 20, none, .bin .neq (.t 17) (.t 19)⟩] [20]) (.cond (.t 20) (.seq (.region [⟨some 4, none, .mv (.c (.d true (.bool false)))⟩] [4]) (.ret)) (.skip))) (.seq (.region [⟨some 4, none, .mv (.c (.d true (.bool true)))⟩] [4]) (.ret)))))
theorem ok40 : FnOk Tryd.prog Tryd.f40 21 keep40 ac40 [.t 4] := by
  refine ⟨?_, ?_, ?_, ?_, ?_⟩ <;> kernel_rfl

/-! spec.Open -/
def keep41 : Nat → List Nat
  | 0 => [1, 3, 5, 6]
  | 1 => [1, 5, 6, 25]
  | 2 => [6, 7]
  | 3 => [1, 6, 8]
  | 4 => [6, 8, 43]
  | 5 => [6, 7]
  | 6 => [6, 7]
  | 1000004 => [1]
  | _ => []
def ac41 : AC := .seq (.region [⟨some 3, none, .box (.t 0)⟩, ⟨some 5, none, .box (.t 2)⟩, ⟨some 6, none, .alloc [.d true (.int .i64 0), .d true (.int .i64 0), .d true (.str ⟨#[]⟩), .nil]⟩, ⟨some 7, none, .mv (.c (.d true (.bool false)))⟩] [1, 3, 5, 6]) (.seq (.seq (.draw [⟨some 9, none, .ld (some 4) (.t 5)⟩, ⟨some 10, none, .call (.c (.fn 80 [])) [.t 9]⟩, ⟨some 11, none, .not (.t 10)⟩, ⟨some 12, none, .mv (.t 11)⟩, ⟨some 13, some (12, false), .fa 0 (.t 5)⟩, ⟨some 14, some (12, false), .ld none (.t 13)⟩, ⟨some 15, some (12, false), .bin .neq (.t 14) (.c (.d true (.int .i64 7)))⟩, ⟨some 16, none, .pick (.t 12) (.c (.d true (.bool true))) (.t 15)⟩, ⟨some 17, none, .mv (.t 16)⟩, ⟨some 18, some (17, false), .fa 3 (.t 5)⟩, ⟨some 19, some (17, false), .ld none (.t 18)⟩, ⟨some 20, some (17, false), .ia 4 (.t 19) (.c (.d true (.int .i64 0)))⟩, ⟨some 21, some (17, false), .ld (some 4) (.t 20)⟩, ⟨some 22, some (17, false), .ld (some 4) (.t 3)⟩, ⟨some 23, some (17, false), .call (.c (.fn 82 [])) [.t 21, .t 22]⟩, ⟨some 24, some (17, false), .not (.t 23)⟩, ⟨some 25, none, .pick (.t 17) (.c (.d true (.bool true))) (.t 24)⟩] [1, 5, 6, 25]) (.cond (.t 25) (.seq (.region [⟨some 26, none, .bld [.d true (.int .i64 0), .d true (.int .i64 0), .d true (.str ⟨#[]⟩), .nil] []⟩, ⟨none, none, .st 4 (.t 6) (.t 26)⟩, ⟨some 7, none, .mv (.c (.d true (.bool false)))⟩] [6, 7]) (.ret)) (.skip))) (.seq (.region [⟨some 27, none, .fa 3 (.t 5)⟩, ⟨some 28, none, .ld none (.t 27)⟩, ⟨some 29, none, .ia 4 (.t 28) (.c (.d true (.int .i64 1)))⟩, ⟨some 30, none, .ld (some 4) (.t 29)⟩, ⟨some 8, none, .alloc [.d true (.int .i64 0), .d true (.int .i64 0), .d true (.str ⟨#[]⟩), .nil]⟩, ⟨none, none, .st 4 (.t 8) (.t 30)⟩] [1, 6, 8]) (.seq (.seq (.tree (.take ⟨some 31, none, .fa 0 (.t 8)⟩ (.take ⟨some 32, none, .ld none (.t 31)⟩ (.take ⟨some 33, none, .bin .neq (.t 32) (.c (.d true (.int .i64 3)))⟩ (.take ⟨some 34, none, .mv (.t 33)⟩ (.take ⟨some 35, some (34, false), .fa 3 (.t 8)⟩ (.take ⟨some 36, some (34, false), .ld none (.t 35)⟩ (.take ⟨some 37, some (34, false), .ia 4 (.t 36) (.c (.d true (.int .i64 0)))⟩ (.take ⟨some 38, some (34, false), .ld (some 4) (.t 37)⟩ (.take ⟨some 39, some (34, false), .mv (.t 1)⟩ (.br (.cons ⟨some 40, some (34, false), .call (.c (.fn 83 [])) [.t 39]⟩ (.br (.cons ⟨some 41, some (34, false), .call (.c (.fn 82 [])) [.t 38, .t 40]⟩ (.take ⟨some 42, some (34, false), .not (.t 41)⟩ (.take ⟨some 43, none, .pick (.t 34) (.c (.d true (.bool true))) (.t 42)⟩ (.done))) (.nil))) (.nil)))))))))))) [6, 8, 43]) (.cond (.t 43) (.seq (.region [⟨some 44, none, .bld [.d true (.int .i64 0), .d true (.int .i64 0), .d true (.str ⟨#[]⟩), .nil] []⟩, ⟨none, none, .st 4 (.t 6) (.t 44)⟩, ⟨some 7, none, .mv (.c (.d true (.bool false)))⟩] [6, 7]) (.ret)) (.skip))) (.seq (.region [⟨some 45, none, .fa 3 (.t 8)⟩, ⟨some 46, none, .ld none (.t 45)⟩, ⟨some 47, none, .ia 4 (.t 46) (.c (.d true (.int .i64 1)))⟩, ⟨some 48, none, .ld (some 4) (.t 47)⟩, ⟨some 49, none, .call (.c (.fn 84 [])) [.t 48]⟩, ⟨none, none, .st 4 (.t 6) (.t 49)⟩, ⟨some 7, none, .mv (.c (.d true (.bool true)))⟩] [6, 7]) (.ret)))))
theorem ok41 : FnOk Tryd.prog Tryd.f41 50 keep41 ac41 [.c 6 (some 4), .t 7] := by
  refine ⟨?_, ?_, ?_, ?_, ?_⟩ <;> kernel_rfl

/-! impl.Open -/
def keep42 : Nat → List Nat
  | 0 => [1, 3, 5, 6]
  | 1 => [1, 5, 6, 25]
  | 2 => [6, 7]
  | 3 => [1, 6, 8]
  | 4 => [6, 8, 43]
  | 5 => [6, 7]
  | 6 => [6, 7]
  | 1000004 => [1]
  | _ => []
def ac42 : AC := .seq (.region [⟨some 3, none, .box (.t 0)⟩, ⟨some 5, none, .box (.t 2)⟩, ⟨some 6, none, .alloc [.d true (.int .i64 0), .d true (.int .i64 0), .d true (.str ⟨#[]⟩), .nil]⟩, ⟨some 7, none, .mv (.c (.d true (.bool false)))⟩] [1, 3, 5, 6]) (.seq (.seq (.draw [⟨some 9, none, .fa 0 (.t 5)⟩, ⟨some 10, none, .ld none (.t 9)⟩, ⟨some 11, none, .bin .neq (.t 10) (.c (.d true (.int .i64 7)))⟩, ⟨some 12, none, .mv (.t 11)⟩, ⟨some 13, some (12, false), .ld (some 4) (.t 5)⟩, ⟨some 14, some (12, false), .call (.c (.fn 81 [])) [.t 13]⟩, ⟨some 15, some (12, false), .not (.t 14)⟩, ⟨some 16, none, .pick (.t 12) (.c (.d true (.bool true))) (.t 15)⟩, ⟨some 17, none, .mv (.t 16)⟩, ⟨some 18, some (17, false), .fa 3 (.t 5)⟩, ⟨some 19, some (17, false), .ld none (.t 18)⟩, ⟨some 20, some (17, false), .ia 4 (.t 19) (.c (.d true (.int .i64 0)))⟩, ⟨some 21, some (17, false), .ld (some 4) (.t 20)⟩, ⟨some 22, some (17, false), .ld (some 4) (.t 3)⟩, ⟨some 23, some (17, false), .call (.c (.fn 85 [])) [.t 21, .t 22]⟩, ⟨some 24, some (17, false), .not (.t 23)⟩, ⟨some 25, none, .pick (.t 17) (.c (.d true (.bool true))) (.t 24)⟩] [1, 5, 6, 25]) (.cond (.t 25) (.seq (.region [⟨some 26, none, .bld [.d true (.int .i64 0), .d true (.int .i64 0), .d true (.str ⟨#[]⟩), .nil] []⟩, ⟨none, none, .st 4 (.t 6) (.t 26)⟩, ⟨some 7, none, .mv (.c (.d true (.bool false)))⟩] [6, 7]) (.ret)) (.skip))) (.seq (.region [⟨some 27, none, .fa 3 (.t 5)⟩, ⟨some 28, none, .ld none (.t 27)⟩, ⟨some 29, none, .ia 4 (.t 28) (.c (.d true (.int .i64 1)))⟩, ⟨some 30, none, .ld (some 4) (.t 29)⟩, ⟨some 8, none, .alloc [.d true (.int .i64 0), .d true (.int .i64 0), .d true (.str ⟨#[]⟩), .nil]⟩, ⟨none, none, .st 4 (.t 8) (.t 30)⟩] [1, 6, 8]) (.seq (.seq (.tree (.take ⟨some 31, none, .fa 0 (.t 8)⟩ (.take ⟨some 32, none, .ld none (.t 31)⟩ (.take ⟨some 33, none, .bin .neq (.t 32) (.c (.d true (.int .i64 3)))⟩ (.take ⟨some 34, none, .mv (.t 33)⟩ (.take ⟨some 35, some (34, false), .fa 3 (.t 8)⟩ (.take ⟨some 36, some (34, false), .ld none (.t 35)⟩ (.take ⟨some 37, some (34, false), .ia 4 (.t 36) (.c (.d true (.int .i64 0)))⟩ (.take ⟨some 38, some (34, false), .ld (some 4) (.t 37)⟩ (.take ⟨some 39, some (34, false), .mv (.t 1)⟩ (.br (.cons ⟨some 40, some (34, false), .call (.c (.fn 86 [])) [.t 39]⟩ (.br (.cons ⟨some 41, some (34, false), .call (.c (.fn 85 [])) [.t 38, .t 40]⟩ (.take ⟨some 42, some (34, false), .not (.t 41)⟩ (.take ⟨some 43, none, .pick (.t 34) (.c (.d true (.bool true))) (.t 42)⟩ (.done))) (.nil))) (.nil)))))))))))) [6, 8, 43]) (.cond (.t 43) (.seq (.region [⟨some 44, none, .bld [.d true (.int .i64 0), .d true (.int .i64 0), .d true (.str ⟨#[]⟩), .nil] []⟩, ⟨none, none, .st 4 (.t 6) (.t 44)⟩, ⟨some 7, none, .mv (.c (.d true (.bool false)))⟩] [6, 7]) (.ret)) (.skip))) (.seq (.region [⟨some 45, none, .fa 3 (.t 8)⟩, ⟨some 46, none, .ld none (.t 45)⟩, ⟨some 47, none, .ia 4 (.t 46) (.c (.d true (.int .i64 1)))⟩, ⟨some 48, none, .ld (some 4) (.t 47)⟩, ⟨some 49, none, .call (.c (.fn 87 [])) [.t 48]⟩, ⟨none, none, .st 4 (.t 6) (.t 49)⟩, ⟨some 7, none, .mv (.c (.d true (.bool true)))⟩] [6, 7]) (.ret)))))
theorem ok42 : FnOk Tryd.prog Tryd.f42 50 keep42 ac42 [.c 6 (some 4), .t 7] := by
  refine ⟨?_, ?_, ?_, ?_, ?_⟩ <;> kernel_rfl

/-! laws.markTerm -/
def keep43 : Nat → List Nat
  | 0 => [1, 2]
  | 1 => [1]
  | 2 => [4]
  | _ => []
def ac43 : AC := .seq (.region [⟨some 2, none, .box (.t 0)⟩, ⟨some 4, none, .mv (.c (.d true (.int .i64 0)))⟩] [1, 2]) (.seq (.region [⟨some 5, none, .fa 3 (.t 2)⟩, ⟨some 6, none, .ld none (.t 5)⟩, ⟨some 7, none, .mv (.t 1)⟩, ⟨some 8, none, .call (.c (.fn 88 [])) [.t 6, .t 7]⟩, ⟨some 1, none, .mv (.t 8)⟩] [1]) (.seq (.region [⟨some 9, none, .mv (.t 1)⟩, ⟨some 4, none, .mv (.t 9)⟩] [4]) (.ret)))
theorem ok43 : FnOk Tryd.prog Tryd.f43 10 keep43 ac43 [.t 4] := by
  refine ⟨?_, ?_, ?_, ?_, ?_⟩ <;> kernel_rfl

/-! laws.heldTerm -/
def keep44 : Nat → List Nat
  | 0 => [1, 2]
  | 1 => [1]
  | 2 => [1, 10]
  | 3 => [4]
  | 4 => [4]
  | _ => []
def ac44 : AC := .seq (.region [⟨some 2, none, .box (.t 0)⟩, ⟨some 4, none, .mv (.c (.d true (.int .i64 0)))⟩] [1, 2]) (.seq (.region [⟨some 5, none, .fa 3 (.t 2)⟩, ⟨some 6, none, .ld none (.t 5)⟩, ⟨some 7, none, .mv (.t 1)⟩, ⟨some 8, none, .call (.c (.fn 89 [])) [.t 6, .t 7]⟩, ⟨some 1, none, .mv (.t 8)⟩] [1]) (.seq (.seq (.region [⟨some 9, none, .mv (.t 1)⟩, ⟨some 10, none, .bin .lss (.t 9) (.c (.d true (.int .i64 0)))⟩] [1, 10]) (.cond (.t 10) (.seq (.region [⟨some 4, none, .mv (.c (.d true (.int .i64 (-1))))⟩] [4]) (.ret)) (.skip))) (.seq (.region [⟨some 11, none, .mv (.t 1)⟩, ⟨some 4, none, .mv (.t 11)⟩] [4]) (.ret))))
theorem ok44 : FnOk Tryd.prog Tryd.f44 12 keep44 ac44 [.t 4] := by
  refine ⟨?_, ?_, ?_, ?_, ?_⟩ <;> kernel_rfl

/-! spec.Seal -/
def keep45 : Nat → List Nat
  | 0 => [1, 3, 5, 6]
  | 1 => [6]
  | 1000001 => [1]
  | _ => []
def ac45 : AC := .seq (.region [⟨some 3, none, .box (.t 0)⟩, ⟨some 5, none, .box (.t 2)⟩, ⟨some 6, none, .alloc [.d true (.int .i64 0), .d true (.int .i64 0), .d true (.str ⟨#[]⟩), .nil]⟩] [1, 3, 5, 6]) (.seq (.tree (.take ⟨some 7, none, .ld (some 4) (.t 3)⟩ (.take ⟨some 8, none, .mv (.t 1)⟩ (.take ⟨some 10, none, .ld (some 4) (.t 5)⟩ (.br (.cons ⟨some 9, none, .call (.c (.fn 83 [])) [.t 8]⟩ (.br (.cons ⟨some 11, none, .call (.c (.fn 91 [])) [.t 9, .t 10]⟩ (.br (.cons ⟨some 12, none, .call (.c (.fn 90 [])) [.c (.d true (.int .i64 7)), .t 7, .t 11]⟩ (.br (.cons ⟨none, none, .st 4 (.t 6) (.t 12)⟩ (.done) (.nil))) (.nil))) (.nil))) (.nil)))))) [6]) (.ret))
theorem ok45 : FnOk Tryd.prog Tryd.f45 13 keep45 ac45 [.c 6 (some 4)] := by
  refine ⟨?_, ?_, ?_, ?_, ?_⟩ <;> kernel_rfl

/-! impl.Seal -/
def keep46 : Nat → List Nat
  | 0 => [1, 3, 5, 6]
  | 1 => [6]
  | 1000001 => [1]
  | _ => []
def ac46 : AC := .seq (.region [⟨some 3, none, .box (.t 0)⟩, ⟨some 5, none, .box (.t 2)⟩, ⟨some 6, none, .alloc [.d true (.int .i64 0), .d true (.int .i64 0), .d true (.str ⟨#[]⟩), .nil]⟩] [1, 3, 5, 6]) (.seq (.tree (.take ⟨some 7, none, .ld (some 4) (.t 3)⟩ (.take ⟨some 8, none, .mv (.t 1)⟩ (.take ⟨some 10, none, .ld (some 4) (.t 5)⟩ (.br (.cons ⟨some 9, none, .call (.c (.fn 86 [])) [.t 8]⟩ (.br (.cons ⟨some 11, none, .call (.c (.fn 93 [])) [.t 9, .t 10]⟩ (.br (.cons ⟨some 12, none, .bs 40 4 [.t 7, .t 11]⟩ (.take ⟨some 13, none, .bld [.d true (.int .i64 0), .d true (.int .i64 0), .d true (.str ⟨#[]⟩), .nil] [(0, 1, .c (.d true (.int .i64 7))), (3, 1, .t 12)]⟩ (.br (.cons ⟨some 14, none, .call (.c (.fn 92 [])) [.t 13]⟩ (.br (.cons ⟨none, none, .st 4 (.t 6) (.t 14)⟩ (.done) (.nil))) (.nil)))) (.nil))) (.nil))) (.nil)))))) [6]) (.ret))
theorem ok46 : FnOk Tryd.prog Tryd.f46 15 keep46 ac46 [.c 6 (some 4)] := by
  refine ⟨?_, ?_, ?_, ?_, ?_⟩ <;> kernel_rfl

/-! spec.KeyOf -/
def keep47 : Nat → List Nat
  | 0 => [1, 2, 4]
  | 1 => [4]
  | 1000001 => [1]
  | _ => []
def ac47 : AC := .seq (.region [⟨some 2, none, .box (.t 0)⟩, ⟨some 4, none, .alloc [.d true (.int .i64 0), .d true (.int .i64 0), .d true (.str ⟨#[]⟩), .nil]⟩] [1, 2, 4]) (.seq (.tree (.take ⟨some 5, none, .ld (some 4) (.t 2)⟩ (.take ⟨some 6, none, .mv (.t 1)⟩ (.br (.cons ⟨some 7, none, .call (.c (.fn 83 [])) [.t 6]⟩ (.br (.cons ⟨some 8, none, .call (.c (.fn 91 [])) [.t 5, .t 7]⟩ (.br (.cons ⟨some 9, none, .call (.c (.fn 94 [])) [.t 8]⟩ (.br (.cons ⟨none, none, .st 4 (.t 4) (.t 9)⟩ (.done) (.nil))) (.nil))) (.nil))) (.nil))))) [4]) (.ret))
theorem ok47 : FnOk Tryd.prog Tryd.f47 10 keep47 ac47 [.c 4 (some 4)] := by
  refine ⟨?_, ?_, ?_, ?_, ?_⟩ <;> kernel_rfl

/-! impl.KeyOf -/
def keep48 : Nat → List Nat
  | 0 => [1, 2, 4]
  | 1 => [4]
  | 1000001 => [1]
  | _ => []
def ac48 : AC := .seq (.region [⟨some 2, none, .box (.t 0)⟩, ⟨some 4, none, .alloc [.d true (.int .i64 0), .d true (.int .i64 0), .d true (.str ⟨#[]⟩), .nil]⟩] [1, 2, 4]) (.seq (.tree (.take ⟨some 5, none, .ld (some 4) (.t 2)⟩ (.take ⟨some 6, none, .mv (.t 1)⟩ (.br (.cons ⟨some 7, none, .call (.c (.fn 86 [])) [.t 6]⟩ (.br (.cons ⟨some 8, none, .call (.c (.fn 93 [])) [.t 5, .t 7]⟩ (.br (.cons ⟨some 9, none, .call (.c (.fn 95 [])) [.t 8]⟩ (.br (.cons ⟨none, none, .st 4 (.t 4) (.t 9)⟩ (.done) (.nil))) (.nil))) (.nil))) (.nil))))) [4]) (.ret))
theorem ok48 : FnOk Tryd.prog Tryd.f48 10 keep48 ac48 [.c 4 (some 4)] := by
  refine ⟨?_, ?_, ?_, ?_, ?_⟩ <;> kernel_rfl

/-! spec.Done -/
def keep49 : Nat → List Nat
  | 0 => [1, 2]
  | 1 => [2]
  | _ => []
def ac49 : AC := .seq (.region [⟨some 1, none, .box (.t 0)⟩, ⟨some 2, none, .alloc [.d true (.int .i64 0), .d true (.int .i64 0), .d true (.str ⟨#[]⟩), .nil]⟩] [1, 2]) (.seq (.region [⟨some 3, none, .ld (some 4) (.t 1)⟩, ⟨some 4, none, .call (.c (.fn 47 [])) [.t 3, .c (.d true (.int .i64 1))]⟩, ⟨some 5, none, .call (.c (.fn 96 [])) [.c (.d true (.str ⟨#[100, 111, 110, 101]⟩))]⟩, ⟨some 6, none, .call (.c (.fn 45 [])) [.t 4, .c (.d true (.int .i64 0)), .t 5]⟩, ⟨none, none, .st 4 (.t 2) (.t 6)⟩] [2]) (.ret))
theorem ok49 : FnOk Tryd.prog Tryd.f49 7 keep49 ac49 [.c 2 (some 4)] := by
  refine ⟨?_, ?_, ?_, ?_, ?_⟩ <;> kernel_rfl

/-! impl.Done -/
def keep50 : Nat → List Nat
  | 0 => [1, 2]
  | 1 => [2]
  | _ => []
def ac50 : AC := .seq (.region [⟨some 1, none, .box (.t 0)⟩, ⟨some 2, none, .alloc [.d true (.int .i64 0), .d true (.int .i64 0), .d true (.str ⟨#[]⟩), .nil]⟩] [1, 2]) (.seq (.region [⟨some 3, none, .ld (some 4) (.t 1)⟩, ⟨some 4, none, .call (.c (.fn 48 [])) [.t 3, .c (.d true (.int .i64 1))]⟩, ⟨some 5, none, .call (.c (.fn 97 [])) [.c (.d true (.str ⟨#[100, 111, 110, 101]⟩))]⟩, ⟨some 6, none, .call (.c (.fn 46 [])) [.t 4, .c (.d true (.int .i64 0)), .t 5]⟩, ⟨none, none, .st 4 (.t 2) (.t 6)⟩] [2]) (.ret))
theorem ok50 : FnOk Tryd.prog Tryd.f50 7 keep50 ac50 [.c 2 (some 4)] := by
  refine ⟨?_, ?_, ?_, ?_, ?_⟩ <;> kernel_rfl

/-! spec.Reply -/
def keep51 : Nat → List Nat
  | 0 => [4, 5, 6, 7, 8]
  | 1 => [4, 5, 6, 7, 8, 10, 11]
  | 2 => [4, 5, 6, 7, 8, 10, 20]
  | 3 => [8, 9]
  | 4 => [8, 12]
  | 5 => [8, 9]
  | 1000004 => [1]
  | 1000005 => [1]
  | _ => []
def ac51 : AC := .seq (.region [⟨some 4, none, .box (.t 0)⟩, ⟨some 5, none, .box (.t 1)⟩, ⟨some 6, none, .box (.t 2)⟩, ⟨some 7, none, .box (.t 3)⟩, ⟨some 8, none, .alloc [.d true (.int .i64 0), .d true (.int .i64 0), .d true (.str ⟨#[]⟩), .nil]⟩, ⟨some 9, none, .mv (.c (.d true (.bool false)))⟩] [4, 5, 6, 7, 8]) (.seq (.region [⟨some 14, none, .ld (some 4) (.t 4)⟩, ⟨some 15, none, .ld (some 4) (.t 5)⟩, ⟨some 16, none, .call (.c (.fn 98 [])) [.t 14, .t 15]⟩, ⟨some 13, none, .mv (.t 16)⟩, ⟨some 17, none, .ext (.t 13) 0⟩, ⟨some 18, none, .ext (.t 13) 1⟩, ⟨some 10, none, .alloc [.d true (.int .i64 0), .d true (.int .i64 0), .d true (.str ⟨#[]⟩), .nil]⟩, ⟨none, none, .st 4 (.t 10) (.t 17)⟩, ⟨some 11, none, .mv (.t 18)⟩] [4, 5, 6, 7, 8, 10, 11]) (.seq (.seq (.region [⟨some 19, none, .mv (.t 11)⟩, ⟨some 20, none, .not (.t 19)⟩] [4, 5, 6, 7, 8, 10, 20]) (.cond (.t 20) (.seq (.region [⟨some 21, none, .bld [.d true (.int .i64 0), .d true (.int .i64 0), .d true (.str ⟨#[]⟩), .nil] []⟩, ⟨none, none, .st 4 (.t 8) (.t 21)⟩, ⟨some 9, none, .mv (.c (.d true (.bool false)))⟩] [8, 9]) (.ret)) (.skip))) (.seq (.tree (.take ⟨some 23, none, .ld (some 4) (.t 4)⟩ (.take ⟨some 25, none, .ld (some 4) (.t 10)⟩ (.take ⟨some 27, none, .ld (some 4) (.t 7)⟩ (.take ⟨some 28, none, .ld (some 4) (.t 6)⟩ (.take ⟨some 29, none, .ld (some 4) (.t 5)⟩ (.take ⟨some 30, none, .ld (some 4) (.t 4)⟩ (.br (.cons ⟨some 22, none, .call (.c (.fn 96 [])) [.c (.d true (.str ⟨#[114, 101, 112, 108, 121]⟩))]⟩ (.br (.cons ⟨some 24, none, .call (.c (.fn 99 [])) [.t 23]⟩ (.br (.cons ⟨some 26, none, .call (.c (.fn 47 [])) [.t 25, .c (.d true (.int .i64 0))]⟩ (.br (.cons ⟨some 31, none, .call (.c (.fn 99 [])) [.t 30]⟩ (.br (.cons ⟨some 32, none, .call (.c (.fn 101 [])) [.t 29, .t 31]⟩ (.br (.cons ⟨some 33, none, .call (.c (.fn 100 [])) [.t 28, .t 32]⟩ (.br (.cons ⟨some 34, none, .call (.c (.fn 91 [])) [.t 27, .t 33]⟩ (.br (.cons ⟨some 35, none, .call (.c (.fn 45 [])) [.t 26, .c (.d true (.int .i64 0)), .t 34]⟩ (.br (.cons ⟨some 36, none, .call (.c (.fn 91 [])) [.t 24, .t 35]⟩ (.br (.cons ⟨some 37, none, .call (.c (.fn 91 [])) [.t 22, .t 36]⟩ (.br (.cons ⟨some 12, none, .alloc [.d true (.int .i64 0), .d true (.int .i64 0), .d true (.str ⟨#[]⟩), .nil]⟩ (.br (.cons ⟨none, none, .st 4 (.t 12) (.t 37)⟩ (.done) (.nil))) (.nil))) (.cons ⟨some 12, none, .alloc [.d true (.int .i64 0), .d true (.int .i64 0), .d true (.str ⟨#[]⟩), .nil]⟩ (.br (.cons ⟨some 37, none, .call (.c (.fn 91 [])) [.t 22, .t 36]⟩ (.br (.cons ⟨none, none, .st 4 (.t 12) (.t 37)⟩ (.done) (.nil))) (.nil))) (.nil)))) (.cons ⟨some 12, none, .alloc [.d true (.int .i64 0), .d true (.int .i64 0), .d true (.str ⟨#[]⟩), .nil]⟩ (.br (.cons ⟨some 36, none, .call (.c (.fn 91 [])) [.t 24, .t 35]⟩ (.br (.cons ⟨some 37, none, .call (.c (.fn 91 [])) [.t 22, .t 36]⟩ (.br (.cons ⟨none, none, .st 4 (.t 12) (.t 37)⟩ (.done) (.nil))) (.nil))) (.nil))) (.nil)))) (.cons ⟨some 12, none, .alloc [.d true (.int .i64 0), .d true (.int .i64 0), .d true (.str ⟨#[]⟩), .nil]⟩ (.br (.cons ⟨some 35, none, .call (.c (.fn 45 [])) [.t 26, .c (.d true (.int .i64 0)), .t 34]⟩ (.br (.cons ⟨some 36, none, .call (.c (.fn 91 [])) [.t 24, .t 35]⟩ (.br (.cons ⟨some 37, none, .call (.c (.fn 91 [])) [.t 22, .t 36]⟩ (.br (.cons ⟨none, none, .st 4 (.t 12) (.t 37)⟩ (.done) (.nil))) (.nil))) (.nil))) (.nil))) (.nil)))) (.cons ⟨some 12, none, .alloc [.d true (.int .i64 0), .d true (.int .i64 0), .d true (.str ⟨#[]⟩), .nil]⟩ (.br (.cons ⟨some 34, none, .call (.c (.fn 91 [])) [.t 27, .t 33]⟩ (.br (.cons ⟨some 35, none, .call (.c (.fn 45 [])) [.t 26, .c (.d true (.int .i64 0)), .t 34]⟩ (.br (.cons ⟨some 36, none, .call (.c (.fn 91 [])) [.t 24, .t 35]⟩ (.br (.cons ⟨some 37, none, .call (.c (.fn 91 [])) [.t 22, .t 36]⟩ (.br (.cons ⟨none, none, .st 4 (.t 12) (.t 37)⟩ (.done) (.nil))) (.nil))) (.nil))) (.nil))) (.nil))) (.nil)))) (.cons ⟨some 12, none, .alloc [.d true (.int .i64 0), .d true (.int .i64 0), .d true (.str ⟨#[]⟩), .nil]⟩ (.br (.cons ⟨some 33, none, .call (.c (.fn 100 [])) [.t 28, .t 32]⟩ (.br (.cons ⟨some 34, none, .call (.c (.fn 91 [])) [.t 27, .t 33]⟩ (.br (.cons ⟨some 35, none, .call (.c (.fn 45 [])) [.t 26, .c (.d true (.int .i64 0)), .t 34]⟩ (.br (.cons ⟨some 36, none, .call (.c (.fn 91 [])) [.t 24, .t 35]⟩ (.br (.cons ⟨some 37, none, .call (.c (.fn 91 [])) [.t 22, .t 36]⟩ (.br (.cons ⟨none, none, .st 4 (.t 12) (.t 37)⟩ (.done) (.nil))) (.nil))) (.nil))) (.nil))) (.nil))) (.nil))) (.nil)))) (.cons ⟨some 12, none, .alloc [.d true (.int .i64 0), .d true (.int .i64 0), .d true (.str ⟨#[]⟩), .nil]⟩ (.br (.cons ⟨some 32, none, .call (.c (.fn 101 [])) [.t 29, .t 31]⟩ (.br (.cons ⟨some 33, none, .call (.c (.fn 100 [])) [.t 28, .t 32]⟩ (.br (.cons ⟨some 34, none, .call (.c (.fn 91 [])) [.t 27, .t 33]⟩ (.br (.cons ⟨some 35, none, .call (.c (.fn 45 [])) [.t 26, .c (.d true (.int .i64 0)), .t 34]⟩ (.br (.cons ⟨some 36, none, .call (.c (.fn 91 [])) [.t 24, .t 35]⟩ (.br (.cons ⟨some 37, none, .call (.c (.fn 91 [])) [.t 22, .t 36]⟩ (.br (.cons ⟨none, none, .st 4 (.t 12) (.t 37)⟩ (.done) (.nil))) (.nil))) (.nil))) (.nil))) (.nil))) (.nil))) (.nil))) (.nil)))) (.cons ⟨some 12, none, .alloc [.d true (.int .i64 0), .d true (.int .i64 0), .d true (.str ⟨#[]⟩), .nil]⟩ (.br (.cons ⟨some 31, none, .call (.c (.fn 99 [])) [.t 30]⟩ (.br (.cons ⟨some 32, none, .call (.c (.fn 101 [])) [.t 29, .t 31]⟩ (.br (.cons ⟨some 33, none, .call (.c (.fn 100 [])) [.t 28, .t 32]⟩ (.br (.cons ⟨some 34, none, .call (.c (.fn 91 [])) [.t 27, .t 33]⟩ (.br (.cons ⟨some 35, none, .call (.c (.fn 45 [])) [.t 26, .c (.d true (.int .i64 0)), .t 34]⟩ (.br (.cons ⟨some 36, none, .call (.c (.fn 91 [])) [.t 24, .t 35]⟩ (.br (.cons ⟨some 37, none, .call (.c (.fn 91 [])) [.t 22, .t 36]⟩ (.br (.cons ⟨none, none, .st 4 (.t 12) (.t 37)⟩ (.done) (.nil))) (.nil))) (.nil))) (.nil))) (.nil))) (.nil))) (.nil))) (.nil))) (.nil)))) (.cons ⟨some 12, none, .alloc [.d true (.int .i64 0), .d true (.int .i64 0), .d true (.str ⟨#[]⟩), .nil]⟩ (.br (.cons ⟨some 26, none, .call (.c (.fn 47 [])) [.t 25, .c (.d true (.int .i64 0))]⟩ (.br (.cons ⟨some 31, none, .call (.c (.fn 99 [])) [.t 30]⟩ (.br (.cons ⟨some 32, none, .call (.c (.fn 101 [])) [.t 29, .t 31]⟩ (.br (.cons ⟨some 33, none, .call (.c (.fn 100 [])) [.t 28, .t 32]⟩ (.br (.cons ⟨some 34, none, .call (.c (.fn 91 [])) [.t 27, .t 33]⟩ (.br (.cons ⟨some 35, none, .call (.c (.fn 45 [])) [.t 26, .c (.d true (.int .i64 0)), .t 34]⟩ (.br (.cons ⟨some 36, none, .call (.c (.fn 91 [])) [.t 24, .t 35]⟩ (.br (.cons ⟨some 37, none, .call (.c (.fn 91 [])) [.t 22, .t 36]⟩ (.br (.cons ⟨none, none, .st 4 (.t 12) (.t 37)⟩ (.done) (.nil))) (.nil))) (.nil))) (.nil))) (.nil))) (.nil))) (.nil))) (.nil))) (.nil))) (.nil)))) (.cons ⟨some 12, none, .alloc [.d true (.int .i64 0), .d true (.int .i64 0), .d true (.str ⟨#[]⟩), .nil]⟩ (.br (.cons ⟨some 24, none, .call (.c (.fn 99 [])) [.t 23]⟩ (.br (.cons ⟨some 26, none, .call (.c (.fn 47 [])) [.t 25, .c (.d true (.int .i64 0))]⟩ (.br (.cons ⟨some 31, none, .call (.c (.fn 99 [])) [.t 30]⟩ (.br (.cons ⟨some 32, none, .call (.c (.fn 101 [])) [.t 29, .t 31]⟩ (.br (.cons ⟨some 33, none, .call (.c (.fn 100 [])) [.t 28, .t 32]⟩ (.br (.cons ⟨some 34, none, .call (.c (.fn 91 [])) [.t 27, .t 33]⟩ (.br (.cons ⟨some 35, none, .call (.c (.fn 45 [])) [.t 26, .c (.d true (.int .i64 0)), .t 34]⟩ (.br (.cons ⟨some 36, none, .call (.c (.fn 91 [])) [.t 24, .t 35]⟩ (.br (.cons ⟨some 37, none, .call (.c (.fn 91 [])) [.t 22, .t 36]⟩ (.br (.cons ⟨none, none, .st 4 (.t 12) (.t 37)⟩ (.done) (.nil))) (.nil))) (.nil))) (.nil))) (.nil))) (.nil))) (.nil))) (.nil))) (.nil))) (.nil))) (.nil)))) (.cons ⟨some 12, none, .alloc [.d true (.int .i64 0), .d true (.int .i64 0), .d true (.str ⟨#[]⟩), .nil]⟩ (.br (.cons ⟨some 22, none, .call (.c (.fn 96 [])) [.c (.d true (.str ⟨#[114, 101, 112, 108, 121]⟩))]⟩ (.br (.cons ⟨some 24, none, .call (.c (.fn 99 [])) [.t 23]⟩ (.br (.cons ⟨some 26, none, .call (.c (.fn 47 [])) [.t 25, .c (.d true (.int .i64 0))]⟩ (.br (.cons ⟨some 31, none, .call (.c (.fn 99 [])) [.t 30]⟩ (.br (.cons ⟨some 32, none, .call (.c (.fn 101 [])) [.t 29, .t 31]⟩ (.br (.cons ⟨some 33, none, .call (.c (.fn 100 [])) [.t 28, .t 32]⟩ (.br (.cons ⟨some 34, none, .call (.c (.fn 91 [])) [.t 27, .t 33]⟩ (.br (.cons ⟨some 35, none, .call (.c (.fn 45 [])) [.t 26, .c (.d true (.int .i64 0)), .t 34]⟩ (.br (.cons ⟨some 36, none, .call (.c (.fn 91 [])) [.t 24, .t 35]⟩ (.br (.cons ⟨some 37, none, .call (.c (.fn 91 [])) [.t 22, .t 36]⟩ (.br (.cons ⟨none, none, .st 4 (.t 12) (.t 37)⟩ (.done) (.nil))) (.nil))) (.nil))) (.nil))) (.nil))) (.nil))) (.nil))) (.nil))) (.nil))) (.nil))) (.nil))) (.nil)))))))))) [8, 12]) (.seq (.tree (.take ⟨some 38, none, .ld (some 4) (.t 12)⟩ (.take ⟨some 39, none, .fa 0 (.t 12)⟩ (.take ⟨some 40, none, .ld none (.t 39)⟩ (.take ⟨some 41, none, .bin .eql (.t 40) (.c (.d true (.int .i64 3)))⟩ (.br (.cons ⟨none, none, .st 4 (.t 8) (.t 38)⟩ (.take ⟨some 9, none, .mv (.t 41)⟩ (.done)) (.nil))))))) [8, 9]) (.ret)))))
theorem ok51 : FnOk Tryd.prog Tryd.f51 42 keep51 ac51 [.c 8 (some 4), .t 9] := by
  refine ⟨?_, ?_, ?_, ?_, ?_⟩ <;> kernel_rfl

/-! impl.Reply -/
def keep52 : Nat → List Nat
  | 0 => [4, 5, 6, 7, 8]
  | 1 => [4, 5, 6, 7, 8, 10, 11]
  | 2 => [5, 6, 7, 8, 10, 11, 12]
  | 3 => [8, 10, 11, 12, 13]
  | 4 => [8, 11, 14]
  | 5 => [8, 14, 44]
  | 6 => [8, 9]
  | 7 => [8, 9]
  | 1000003 => [1]
  | 1000004 => [1]
  | _ => []
def ac52 : AC := .seq (.region [⟨some 4, none, .box (.t 0)⟩, ⟨some 5, none, .box (.t 1)⟩, ⟨some 6, none, .box (.t 2)⟩, ⟨some 7, none, .box (.t 3)⟩, ⟨some 8, none, .alloc [.d true (.int .i64 0), .d true (.int .i64 0), .d true (.str ⟨#[]⟩), .nil]⟩, ⟨some 9, none, .mv (.c (.d true (.bool false)))⟩] [4, 5, 6, 7, 8]) (.seq (.region [⟨some 16, none, .ld (some 4) (.t 4)⟩, ⟨some 17, none, .ld (some 4) (.t 5)⟩, ⟨some 18, none, .call (.c (.fn 102 [])) [.t 16, .t 17]⟩, ⟨some 15, none, .mv (.t 18)⟩, ⟨some 19, none, .ext (.t 15) 0⟩, ⟨some 20, none, .ext (.t 15) 1⟩, ⟨some 10, none, .alloc [.d true (.int .i64 0), .d true (.int .i64 0), .d true (.str ⟨#[]⟩), .nil]⟩, ⟨none, none, .st 4 (.t 10) (.t 19)⟩, ⟨some 11, none, .mv (.t 20)⟩] [4, 5, 6, 7, 8, 10, 11]) (.seq (.region [⟨some 21, none, .ld (some 4) (.t 4)⟩, ⟨some 22, none, .call (.c (.fn 103 [])) [.t 21]⟩, ⟨some 12, none, .alloc [.d true (.int .i64 0), .d true (.int .i64 0), .d true (.str ⟨#[]⟩), .nil]⟩, ⟨none, none, .st 4 (.t 12) (.t 22)⟩] [5, 6, 7, 8, 10, 11, 12]) (.seq (.tree (.take ⟨some 23, none, .ld (some 4) (.t 7)⟩ (.take ⟨some 24, none, .ld (some 4) (.t 6)⟩ (.take ⟨some 25, none, .ld (some 4) (.t 5)⟩ (.take ⟨some 26, none, .ld (some 4) (.t 12)⟩ (.br (.cons ⟨some 27, none, .call (.c (.fn 105 [])) [.t 25, .t 26]⟩ (.br (.cons ⟨some 28, none, .call (.c (.fn 104 [])) [.t 24, .t 27]⟩ (.br (.cons ⟨some 29, none, .call (.c (.fn 93 [])) [.t 23, .t 28]⟩ (.br (.cons ⟨some 13, none, .alloc [.d true (.int .i64 0), .d true (.int .i64 0), .d true (.str ⟨#[]⟩), .nil]⟩ (.br (.cons ⟨none, none, .st 4 (.t 13) (.t 29)⟩ (.done) (.nil))) (.nil))) (.cons ⟨some 13, none, .alloc [.d true (.int .i64 0), .d true (.int .i64 0), .d true (.str ⟨#[]⟩), .nil]⟩ (.br (.cons ⟨some 29, none, .call (.c (.fn 93 [])) [.t 23, .t 28]⟩ (.br (.cons ⟨none, none, .st 4 (.t 13) (.t 29)⟩ (.done) (.nil))) (.nil))) (.nil)))) (.cons ⟨some 13, none, .alloc [.d true (.int .i64 0), .d true (.int .i64 0), .d true (.str ⟨#[]⟩), .nil]⟩ (.br (.cons ⟨some 28, none, .call (.c (.fn 104 [])) [.t 24, .t 27]⟩ (.br (.cons ⟨some 29, none, .call (.c (.fn 93 [])) [.t 23, .t 28]⟩ (.br (.cons ⟨none, none, .st 4 (.t 13) (.t 29)⟩ (.done) (.nil))) (.nil))) (.nil))) (.nil)))) (.cons ⟨some 13, none, .alloc [.d true (.int .i64 0), .d true (.int .i64 0), .d true (.str ⟨#[]⟩), .nil]⟩ (.br (.cons ⟨some 27, none, .call (.c (.fn 105 [])) [.t 25, .t 26]⟩ (.br (.cons ⟨some 28, none, .call (.c (.fn 104 [])) [.t 24, .t 27]⟩ (.br (.cons ⟨some 29, none, .call (.c (.fn 93 [])) [.t 23, .t 28]⟩ (.br (.cons ⟨none, none, .st 4 (.t 13) (.t 29)⟩ (.done) (.nil))) (.nil))) (.nil))) (.nil))) (.nil)))))))) [8, 10, 11, 12, 13]) (.seq (.tree (.take ⟨some 31, none, .ld (some 4) (.t 12)⟩ (.take ⟨some 32, none, .ld (some 4) (.t 10)⟩ (.take ⟨some 34, none, .ld (some 4) (.t 13)⟩ (.br (.cons ⟨some 30, none, .call (.c (.fn 97 [])) [.c (.d true (.str ⟨#[114, 101, 112, 108, 121]⟩))]⟩ (.br (.cons ⟨some 33, none, .call (.c (.fn 48 [])) [.t 32, .c (.d true (.int .i64 0))]⟩ (.br (.cons ⟨some 35, none, .call (.c (.fn 46 [])) [.t 33, .c (.d true (.int .i64 0)), .t 34]⟩ (.br (.cons ⟨some 36, none, .call (.c (.fn 93 [])) [.t 31, .t 35]⟩ (.br (.cons ⟨some 37, none, .call (.c (.fn 93 [])) [.t 30, .t 36]⟩ (.br (.cons ⟨some 14, none, .alloc [.d true (.int .i64 0), .d true (.int .i64 0), .d true (.str ⟨#[]⟩), .nil]⟩ (.br (.cons ⟨none, none, .st 4 (.t 14) (.t 37)⟩ (.done) (.nil))) (.nil))) (.cons ⟨some 14, none, .alloc [.d true (.int .i64 0), .d true (.int .i64 0), .d true (.str ⟨#[]⟩), .nil]⟩ (.br (.cons ⟨some 37, none, .call (.c (.fn 93 [])) [.t 30, .t 36]⟩ (.br (.cons ⟨none, none, .st 4 (.t 14) (.t 37)⟩ (.done) (.nil))) (.nil))) (.nil)))) (.cons ⟨some 14, none, .alloc [.d true (.int .i64 0), .d true (.int .i64 0), .d true (.str ⟨#[]⟩), .nil]⟩ (.br (.cons ⟨some 36, none, .call (.c (.fn 93 [])) [.t 31, .t 35]⟩ (.br (.cons ⟨some 37, none, .call (.c (.fn 93 [])) [.t 30, .t 36]⟩ (.br (.cons ⟨none, none, .st 4 (.t 14) (.t 37)⟩ (.done) (.nil))) (.nil))) (.nil))) (.nil)))) (.cons ⟨some 14, none, .alloc [.d true (.int .i64 0), .d true (.int .i64 0), .d true (.str ⟨#[]⟩), .nil]⟩ (.br (.cons ⟨some 35, none, .call (.c (.fn 46 [])) [.t 33, .c (.d true (.int .i64 0)), .t 34]⟩ (.br (.cons ⟨some 36, none, .call (.c (.fn 93 [])) [.t 31, .t 35]⟩ (.br (.cons ⟨some 37, none, .call (.c (.fn 93 [])) [.t 30, .t 36]⟩ (.br (.cons ⟨none, none, .st 4 (.t 14) (.t 37)⟩ (.done) (.nil))) (.nil))) (.nil))) (.nil))) (.nil)))) (.cons ⟨some 14, none, .alloc [.d true (.int .i64 0), .d true (.int .i64 0), .d true (.str ⟨#[]⟩), .nil]⟩ (.br (.cons ⟨some 33, none, .call (.c (.fn 48 [])) [.t 32, .c (.d true (.int .i64 0))]⟩ (.br (.cons ⟨some 35, none, .call (.c (.fn 46 [])) [.t 33, .c (.d true (.int .i64 0)), .t 34]⟩ (.br (.cons ⟨some 36, none, .call (.c (.fn 93 [])) [.t 31, .t 35]⟩ (.br (.cons ⟨some 37, none, .call (.c (.fn 93 [])) [.t 30, .t 36]⟩ (.br (.cons ⟨none, none, .st 4 (.t 14) (.t 37)⟩ (.done) (.nil))) (.nil))) (.nil))) (.nil))) (.nil))) (.nil)))) (.cons ⟨some 14, none, .alloc [.d true (.int .i64 0), .d true (.int .i64 0), .d true (.str ⟨#[]⟩), .nil]⟩ (.br (.cons ⟨some 30, none, .call (.c (.fn 97 [])) [.c (.d true (.str ⟨#[114, 101, 112, 108, 121]⟩))]⟩ (.br (.cons ⟨some 33, none, .call (.c (.fn 48 [])) [.t 32, .c (.d true (.int .i64 0))]⟩ (.br (.cons ⟨some 35, none, .call (.c (.fn 46 [])) [.t 33, .c (.d true (.int .i64 0)), .t 34]⟩ (.br (.cons ⟨some 36, none, .call (.c (.fn 93 [])) [.t 31, .t 35]⟩ (.br (.cons ⟨some 37, none, .call (.c (.fn 93 [])) [.t 30, .t 36]⟩ (.br (.cons ⟨none, none, .st 4 (.t 14) (.t 37)⟩ (.done) (.nil))) (.nil))) (.nil))) (.nil))) (.nil))) (.nil))) (.nil))))))) [8, 11, 14]) (.seq (.seq (.region [⟨some 38, none, .mv (.t 11)⟩, ⟨some 39, none, .not (.t 38)⟩, ⟨some 40, none, .mv (.t 39)⟩, ⟨some 41, some (40, false), .fa 0 (.t 14)⟩, ⟨some 42, some (40, false), .ld none (.t 41)⟩, ⟨some 43, some (40, false), .bin .neq (.t 42) (.c (.d true (.int .i64 3)))⟩, ⟨some 44, none, .pick (.t 40) (.c (.d true (.bool true))) (.t 43)⟩] [8, 14, 44]) (.cond (.t 44) (.seq (.region [⟨some 45, none, .bld [.d true (.int .i64 0), .d true (.int .i64 0), .d true (.str ⟨#[]⟩), .nil] []⟩, ⟨none, none, .st 4 (.t 8) (.t 45)⟩, ⟨some 9, none, .mv (.c (.d true (.bool false)))⟩] [8, 9]) (.ret)) (.skip))) (.seq (.region [⟨some 46, none, .ld (some 4) (.t 14)⟩, ⟨none, none, .st 4 (.t 8) (.t 46)⟩, ⟨some 9, none, .mv (.c (.d true (.bool true)))⟩] [8, 9]) (.ret)))))))
theorem ok52 : FnOk Tryd.prog Tryd.f52 47 keep52 ac52 [.c 8 (some 4), .t 9] := by
  refine ⟨?_, ?_, ?_, ?_, ?_⟩ <;> kernel_rfl

/-! spec.HostOk -/
def keep53 : Nat → List Nat
  | 0 => [0]
  | 1 => [2]
  | _ => []
def ac53 : AC := .seq (.region [⟨some 2, none, .mv (.c (.d true (.bool false)))⟩] [0]) (.seq (.region [⟨some 3, none, .mv (.t 0)⟩, ⟨some 4, none, .call (.c (.fn 55 [])) [.t 3, .c (.d true (.int .i64 2))]⟩, ⟨some 2, none, .mv (.t 4)⟩] [2]) (.ret))
theorem ok53 : FnOk Tryd.prog Tryd.f53 5 keep53 ac53 [.t 2] := by
  refine ⟨?_, ?_, ?_, ?_, ?_⟩ <;> kernel_rfl

/-! spec.l5Star -/
def keep54 : Nat → List Nat
  | 0 => [0]
  | 1 => [2]
  | _ => []
def ac54 : AC := .seq (.region [⟨some 2, none, .mv (.c (.d true (.bool false)))⟩] [0]) (.seq (.region [⟨some 3, none, .mv (.t 0)⟩, ⟨some 4, none, .slen (.t 3)⟩, ⟨some 5, none, .bin .gtr (.t 4) (.c (.d true (.int .i64 2)))⟩, ⟨some 6, none, .mv (.t 5)⟩, ⟨some 7, some (6, true), .mv (.t 0)⟩, ⟨some 8, some (6, true), .sls (.t 7) none (some (.c (.d true (.int .i64 2))))⟩, ⟨some 9, some (6, true), .bin .eql (.t 8) (.c (.d true (.str ⟨#[42, 46]⟩)))⟩, ⟨some 10, none, .pick (.t 6) (.t 9) (.c (.d true (.bool false)))⟩, ⟨some 2, none, .mv (.t 10)⟩] [2]) (.ret))
theorem ok54 : FnOk Tryd.prog Tryd.f54 11 keep54 ac54 [.t 2] := by
  refine ⟨?_, ?_, ?_, ?_, ?_⟩ <;> kernel_rfl

/-! spec.l5Labels -/
def keep55 : Nat → List Nat
  | 0 => [0, 1]
  | 1 => [0, 1, 5]
  | 2 => [0, 1, 5, 6]
  | 3 => [0, 1, 5, 6, 12]
  | 4 => [0, 1, 5, 6]
  | 5 => [0, 1, 5, 6, 20]
  | 6 => [4]
  | 7 => [4]
  | _ => []
def ac55 : AC := .seq (.region [⟨some 4, none, .mv (.c (.d true (.bool false)))⟩] [0, 1]) (.seq (.region [⟨some 7, none, .mv (.t 0)⟩, ⟨some 8, none, .call (.c (.fn 59 [])) [.t 7]⟩, ⟨some 5, none, .mv (.t 8)⟩] [0, 1, 5]) (.seq (.seq (.region [⟨some 6, none, .mv (.c (.d true (.int .i64 0)))⟩] [0, 1, 5, 6]) (.block 0 (.loop (.seq (.seq (.region [⟨some 9, none, .mv (.t 6)⟩, ⟨some 10, none, .mv (.t 5)⟩, ⟨some 11, none, .len (.t 10)⟩, ⟨some 12, none, .bin .lss (.t 9) (.t 11)⟩] [0, 1, 5, 6, 12]) (.cond (.t 12) (.skip) (.exit 0))) (.seq (.block 1 (.seq (.region [⟨some 15, none, .mv (.t 5)⟩, ⟨some 16, none, .mv (.t 6)⟩, ⟨some 17, none, .ia 1 (.t 15) (.t 16)⟩, ⟨some 18, none, .ld none (.t 17)⟩, ⟨some 19, none, .call (.c (.fn 106 [])) [.t 18]⟩, ⟨some 20, none, .not (.t 19)⟩] [0, 1, 5, 6, 20]) (.cond (.t 20) (.seq (.region [⟨some 4, none, .mv (.c (.d true (.bool false)))⟩] [4]) (.ret)) (.skip)))) (.region [⟨some 13, none, .mv (.t 6)⟩, ⟨some 14, none, .bin .add (.t 13) (.c (.d true (.int .i64 1)))⟩, ⟨some 6, none, .mv (.t 14)⟩] [0, 1, 5, 6])))))) (.seq (.region [⟨some 21, none, .mv (.t 5)⟩, ⟨some 22, none, .len (.t 21)⟩, ⟨some 23, none, .mv (.t 1)⟩, ⟨some 24, none, .bin .geq (.t 22) (.t 23)⟩, ⟨some 25, none, .mv (.t 24)⟩, ⟨some 26, some (25, true), .mv (.t 0)⟩, ⟨some 27, some (25, true), .slen (.t 26)⟩, ⟨some 28, some (25, true), .bin .leq (.t 27) (.c (.d true (.int .i64 60)))⟩, ⟨some 29, none, .pick (.t 25) (.t 28) (.c (.d true (.bool false)))⟩, ⟨some 4, none, .mv (.t 29)⟩] [4]) (.ret))))
theorem ok55 : FnOk Tryd.prog Tryd.f55 30 keep55 ac55 [.t 4] := by
  refine ⟨?_, ?_, ?_, ?_, ?_⟩ <;> kernel_rfl

/-! impl.labelsOk -/
def keep57 : Nat → List Nat
  | 0 => [0, 1]
  | 1 => [0, 1, 5]
  | 2 => [4]
  | _ => []
def ac57 : AC := .seq (.region [⟨some 4, none, .mv (.c (.d true (.bool false)))⟩] [0, 1]) (.seq (.region [⟨some 6, none, .mv (.t 0)⟩, ⟨some 7, none, .call (.c (.fn 108 [])) [.t 6]⟩, ⟨some 5, none, .mv (.t 7)⟩] [0, 1, 5]) (.seq (.region [⟨some 8, none, .mv (.t 0)⟩, ⟨some 9, none, .slen (.t 8)⟩, ⟨some 10, none, .bin .leq (.t 9) (.c (.d true (.int .i64 60)))⟩, ⟨some 11, none, .mv (.t 10)⟩, ⟨some 12, some (11, true), .mv (.t 5)⟩, ⟨some 13, some (11, true), .len (.t 12)⟩, ⟨some 14, some (11, true), .mv (.t 1)⟩, ⟨some 15, some (11, true), .bin .geq (.t 13) (.t 14)⟩, ⟨some 16, none, .pick (.t 11) (.t 15) (.c (.d true (.bool false)))⟩, ⟨some 17, none, .mv (.t 16)⟩, ⟨some 18, some (17, true), .mv (.t 5)⟩, ⟨some 19, some (17, true), .call (.c (.fn 67 [])) [.t 18, .c (.fn 109 [])]⟩, ⟨some 20, some (17, true), .not (.t 19)⟩, ⟨some 21, none, .pick (.t 17) (.t 20) (.c (.d true (.bool false)))⟩, ⟨some 4, none, .mv (.t 21)⟩] [4]) (.ret)))
theorem ok57 : FnOk Tryd.prog Tryd.f57 22 keep57 ac57 [.t 4] := by
  refine ⟨?_, ?_, ?_, ?_, ?_⟩ <;> kernel_rfl

/-! impl.HostOk -/
def keep58 : Nat → List Nat
  | 0 => [0]
  | 1 => [2]
  | _ => []
def ac58 : AC := .seq (.region [⟨some 2, none, .mv (.c (.d true (.bool false)))⟩] [0]) (.seq (.region [⟨some 3, none, .mv (.t 0)⟩, ⟨some 4, none, .call (.c (.fn 57 [])) [.t 3, .c (.d true (.int .i64 2))]⟩, ⟨some 2, none, .mv (.t 4)⟩] [2]) (.ret))
theorem ok58 : FnOk Tryd.prog Tryd.f58 5 keep58 ac58 [.t 2] := by
  refine ⟨?_, ?_, ?_, ?_, ?_⟩ <;> kernel_rfl

/-! spec.Labels -/
def keep59 : Nat → List Nat
  | 0 => [0]
  | 1 => [0, 3]
  | 2 => [0, 3, 4]
  | 3 => [0, 3, 4, 5]
  | 4 => [0, 3, 4, 5, 10]
  | 5 => [0, 3, 4, 5]
  | 6 => [0, 3, 4, 5, 22]
  | 7 => [0, 3, 5]
  | 8 => [0, 3, 4, 5]
  | 9 => [2]
  | _ => []
def ac59 : AC := .seq (.region [⟨some 2, none, .own 9 1⟩] [0]) (.seq (.region [⟨some 6, none, .bs 9 1 []⟩, ⟨some 3, none, .mv (.t 6)⟩] [0, 3]) (.seq (.region [⟨some 4, none, .mv (.c (.d true (.int .i64 0)))⟩] [0, 3, 4]) (.seq (.seq (.region [⟨some 5, none, .mv (.c (.d true (.int .i64 0)))⟩] [0, 3, 4, 5]) (.block 0 (.loop (.seq (.seq (.region [⟨some 7, none, .mv (.t 5)⟩, ⟨some 8, none, .mv (.t 0)⟩, ⟨some 9, none, .slen (.t 8)⟩, ⟨some 10, none, .bin .leq (.t 7) (.t 9)⟩] [0, 3, 4, 5, 10]) (.cond (.t 10) (.skip) (.exit 0))) (.seq (.block 1 (.seq (.region [⟨some 13, none, .mv (.t 5)⟩, ⟨some 14, none, .mv (.t 0)⟩, ⟨some 15, none, .slen (.t 14)⟩, ⟨some 16, none, .bin .eql (.t 13) (.t 15)⟩, ⟨some 17, none, .mv (.t 16)⟩, ⟨some 18, some (17, false), .mv (.t 0)⟩, ⟨some 19, some (17, false), .mv (.t 5)⟩, ⟨some 20, some (17, false), .ix (.t 18) (.t 19)⟩, ⟨some 21, some (17, false), .bin .eql (.t 20) (.c (.d true (.int .u8 46)))⟩, ⟨some 22, none, .pick (.t 17) (.c (.d true (.bool true))) (.t 21)⟩] [0, 3, 4, 5, 22]) (.cond (.t 22) (.seq (.region [⟨some 23, none, .mv (.t 3)⟩, ⟨some 24, none, .mv (.t 0)⟩, ⟨some 25, none, .mv (.t 4)⟩, ⟨some 26, none, .mv (.t 5)⟩, ⟨some 27, none, .sls (.t 24) (some (.t 25)) (some (.t 26))⟩, ⟨some 28, none, .bs 9 1 [.t 27]⟩, ⟨some 29, none, .app 9 1 16 (.t 23) (.t 28)⟩, ⟨some 3, none, .mv (.t 29)⟩] [0, 3, 5]) (.region [⟨some 30, none, .mv (.t 5)⟩, ⟨some 31, none, .bin .add (.t 30) (.c (.d true (.int .i64 1)))⟩, ⟨some 4, none, .mv (.t 31)⟩] [0, 3, 4, 5])) (.skip)))) (.region [⟨some 11, none, .mv (.t 5)⟩, ⟨some 12, none, .bin .add (.t 11) (.c (.d true (.int .i64 1)))⟩, ⟨some 5, none, .mv (.t 12)⟩] [0, 3, 4, 5])))))) (.seq (.region [⟨some 32, none, .mv (.t 3)⟩, ⟨some 2, none, .mv (.t 32)⟩] [2]) (.ret)))))
theorem ok59 : FnOk Tryd.prog Tryd.f59 33 keep59 ac59 [.t 2] := by
  refine ⟨?_, ?_, ?_, ?_, ?_⟩ <;> kernel_rfl

/-! laws.szStringS -/
def keep61 : Nat → List Nat
  | 0 => [0, 1]
  | 1 => [0, 1]
  | 2 => [0, 1, 11]
  | 3 => [4]
  | 4 => [0, 1, 5]
  | 5 => [0, 1, 5, 15]
  | 6 => [0, 1, 5]
  | 7 => [0, 1, 5]
  | 8 => [0, 1, 5, 26]
  | 9 => [4]
  | 10 => [4]
  | _ => []
def ac61 : AC := .seq (.region [⟨some 4, none, .mv (.c (.d true (.int .i64 0)))⟩] [0, 1]) (.seq (.region [⟨some 6, none, .mv (.t 1)⟩, ⟨some 7, none, .mv (.t 0)⟩, ⟨some 8, none, .len (.t 7)⟩, ⟨some 9, none, .bin .sub (.t 6) (.t 8)⟩, ⟨some 1, none, .mv (.t 9)⟩] [0, 1]) (.seq (.seq (.region [⟨some 10, none, .mv (.t 1)⟩, ⟨some 11, none, .bin .lss (.t 10) (.c (.d true (.int .i64 0)))⟩] [0, 1, 11]) (.cond (.t 11) (.seq (.region [⟨some 4, none, .mv (.c (.d true (.int .i64 (-1))))⟩] [4]) (.ret)) (.skip))) (.seq (.seq (.region [⟨some 5, none, .mv (.c (.d true (.int .i64 0)))⟩] [0, 1, 5]) (.block 0 (.loop (.seq (.seq (.region [⟨some 12, none, .mv (.t 5)⟩, ⟨some 13, none, .mv (.t 0)⟩, ⟨some 14, none, .len (.t 13)⟩, ⟨some 15, none, .bin .lss (.t 12) (.t 14)⟩] [0, 1, 5, 15]) (.cond (.t 15) (.skip) (.exit 0))) (.seq (.block 1 (.seq (.region [⟨some 18, none, .mv (.t 1)⟩, ⟨some 19, none, .mv (.t 0)⟩, ⟨some 20, none, .mv (.t 5)⟩, ⟨some 21, none, .ia 1 (.t 19) (.t 20)⟩, ⟨some 22, none, .ld none (.t 21)⟩, ⟨some 23, none, .slen (.t 22)⟩, ⟨some 24, none, .bin .sub (.t 18) (.t 23)⟩, ⟨some 1, none, .mv (.t 24)⟩] [0, 1, 5]) (.seq (.region [⟨some 25, none, .mv (.t 1)⟩, ⟨some 26, none, .bin .lss (.t 25) (.c (.d true (.int .i64 0)))⟩] [0, 1, 5, 26]) (.cond (.t 26) (.seq (.region [⟨some 4, none, .mv (.c (.d true (.int .i64 (-1))))⟩] [4]) (.ret)) (.skip))))) (.region [⟨some 16, none, .mv (.t 5)⟩, ⟨some 17, none, .bin .add (.t 16) (.c (.d true (.int .i64 1)))⟩, ⟨some 5, none, .mv (.t 17)⟩] [0, 1, 5])))))) (.seq (.region [⟨some 27, none, .mv (.t 1)⟩, ⟨some 4, none, .mv (.t 27)⟩] [4]) (.ret)))))
theorem ok61 : FnOk Tryd.prog Tryd.f61 28 keep61 ac61 [.t 4] := by
  refine ⟨?_, ?_, ?_, ?_, ?_⟩ <;> kernel_rfl

/-! spec.l6Domain -/
def keep62 : Nat → List Nat
  | 0 => [0]
  | 1 => [0, 3]
  | 2 => [0, 3, 7]
  | 3 => [0, 3]
  | 4 => [0, 3, 19]
  | 5 => [2]
  | 6 => [2]
  | _ => []
def ac62 : AC := .seq (.region [⟨some 2, none, .mv (.c (.d true (.bool false)))⟩] [0]) (.seq (.seq (.region [⟨some 3, none, .mv (.c (.d true (.int .i64 0)))⟩] [0, 3]) (.block 0 (.loop (.seq (.seq (.region [⟨some 4, none, .mv (.t 3)⟩, ⟨some 5, none, .mv (.t 0)⟩, ⟨some 6, none, .slen (.t 5)⟩, ⟨some 7, none, .bin .lss (.t 4) (.t 6)⟩] [0, 3, 7]) (.cond (.t 7) (.skip) (.exit 0))) (.seq (.block 1 (.seq (.region [⟨some 10, none, .mv (.t 0)⟩, ⟨some 11, none, .mv (.t 3)⟩, ⟨some 12, none, .ix (.t 10) (.t 11)⟩, ⟨some 13, none, .bin .lss (.t 12) (.c (.d true (.int .u8 97)))⟩, ⟨some 14, none, .mv (.t 13)⟩, ⟨some 15, some (14, false), .mv (.t 0)⟩, ⟨some 16, some (14, false), .mv (.t 3)⟩, ⟨some 17, some (14, false), .ix (.t 15) (.t 16)⟩, ⟨some 18, some (14, false), .bin .gtr (.t 17) (.c (.d true (.int .u8 122)))⟩, ⟨some 19, none, .pick (.t 14) (.c (.d true (.bool true))) (.t 18)⟩] [0, 3, 19]) (.cond (.t 19) (.seq (.region [⟨some 2, none, .mv (.c (.d true (.bool false)))⟩] [2]) (.ret)) (.skip)))) (.region [⟨some 8, none, .mv (.t 3)⟩, ⟨some 9, none, .bin .add (.t 8) (.c (.d true (.int .i64 1)))⟩, ⟨some 3, none, .mv (.t 9)⟩] [0, 3])))))) (.seq (.region [⟨some 20, none, .mv (.t 0)⟩, ⟨some 21, none, .slen (.t 20)⟩, ⟨some 22, none, .call (.c (.fn 63 [])) [.t 21, .c (.d true (.int .i64 1)), .c (.d true (.int .i64 10))]⟩, ⟨some 2, none, .mv (.t 22)⟩] [2]) (.ret)))
theorem ok62 : FnOk Tryd.prog Tryd.f62 23 keep62 ac62 [.t 2] := by
  refine ⟨?_, ?_, ?_, ?_, ?_⟩ <;> kernel_rfl

/-! spec.l1In -/
def keep63 : Nat → List Nat
  | 0 => [0, 1, 2]
  | 1 => [6]
  | _ => []
def ac63 : AC := .seq (.region [⟨some 6, none, .mv (.c (.d true (.bool false)))⟩] [0, 1, 2]) (.seq (.region [⟨some 7, none, .mv (.t 0)⟩, ⟨some 8, none, .mv (.t 1)⟩, ⟨some 9, none, .bin .geq (.t 7) (.t 8)⟩, ⟨some 10, none, .mv (.t 9)⟩, ⟨some 11, some (10, true), .mv (.t 0)⟩, ⟨some 12, some (10, true), .mv (.t 2)⟩, ⟨some 13, some (10, true), .bin .leq (.t 11) (.t 12)⟩, ⟨some 14, none, .pick (.t 10) (.t 13) (.c (.d true (.bool false)))⟩, ⟨some 6, none, .mv (.t 14)⟩] [6]) (.ret))
theorem ok63 : FnOk Tryd.prog Tryd.f63 15 keep63 ac63 [.t 6] := by
  refine ⟨?_, ?_, ?_, ?_, ?_⟩ <;> kernel_rfl

/-! laws.toStringS -/
def keep64 : Nat → List Nat
  | 0 => [0]
  | 1 => [0, 3]
  | 2 => [0, 3, 4]
  | 3 => [0, 3, 4, 11]
  | 4 => [0, 3, 4]
  | 5 => [0, 3, 4]
  | 6 => [2]
  | _ => []
def ac64 : AC := .seq (.region [⟨some 2, none, .own 9 1⟩] [0]) (.seq (.region [⟨some 5, none, .mv (.t 0)⟩, ⟨some 6, none, .len (.t 5)⟩, ⟨some 7, none, .mks 9 1 16 [.d true (.str ⟨#[]⟩)] (.t 6) (.t 6)⟩, ⟨some 3, none, .mv (.t 7)⟩] [0, 3]) (.seq (.seq (.region [⟨some 4, none, .mv (.c (.d true (.int .i64 0)))⟩] [0, 3, 4]) (.block 0 (.loop (.seq (.seq (.region [⟨some 8, none, .mv (.t 4)⟩, ⟨some 9, none, .mv (.t 0)⟩, ⟨some 10, none, .len (.t 9)⟩, ⟨some 11, none, .bin .lss (.t 8) (.t 10)⟩] [0, 3, 4, 11]) (.cond (.t 11) (.skip) (.exit 0))) (.seq (.block 1 (.region [⟨some 14, none, .mv (.t 3)⟩, ⟨some 15, none, .mv (.t 4)⟩, ⟨some 16, none, .mv (.t 0)⟩, ⟨some 17, none, .mv (.t 4)⟩, ⟨some 18, none, .ia 1 (.t 16) (.t 17)⟩, ⟨some 19, none, .ld none (.t 18)⟩, ⟨some 20, none, .ia 1 (.t 14) (.t 15)⟩, ⟨none, none, .st 1 (.t 20) (.t 19)⟩] [0, 3, 4])) (.region [⟨some 12, none, .mv (.t 4)⟩, ⟨some 13, none, .bin .add (.t 12) (.c (.d true (.int .i64 1)))⟩, ⟨some 4, none, .mv (.t 13)⟩] [0, 3, 4])))))) (.seq (.region [⟨some 21, none, .mv (.t 3)⟩, ⟨some 2, none, .mv (.t 21)⟩] [2]) (.ret))))
theorem ok64 : FnOk Tryd.prog Tryd.f64 22 keep64 ac64 [.t 2] := by
  refine ⟨?_, ?_, ?_, ?_, ?_⟩ <;> kernel_rfl

/-! impl.domainOk -/
def keep65 : Nat → List Nat
  | 0 => [0]
  | 1 => [0, 5, 6]
  | 2 => [0, 5, 6, 7]
  | 3 => [0, 3, 5, 6]
  | 4 => [0, 5, 6, 18]
  | 5 => [2]
  | 6 => [0, 5, 6]
  | 7 => [2]
  | _ => []
def ac65 : AC := .seq (.region [⟨some 2, none, .mv (.c (.d true (.bool false)))⟩] [0]) (.seq (.seq (.region [⟨some 4, none, .mv (.t 0)⟩, ⟨some 5, none, .slen (.t 4)⟩, ⟨some 6, none, .mv (.c (.d true (.int .i64 0)))⟩] [0, 5, 6]) (.block 0 (.loop (.seq (.region [⟨some 7, none, .bin .lss (.t 6) (.t 5)⟩] [0, 5, 6, 7]) (.seq (.cond (.t 7) (.skip) (.exit 0)) (.seq (.block 1 (.seq (.region [⟨some 8, none, .mv (.t 6)⟩, ⟨some 3, none, .mv (.t 8)⟩] [0, 3, 5, 6]) (.seq (.region [⟨some 9, none, .mv (.t 0)⟩, ⟨some 10, none, .mv (.t 3)⟩, ⟨some 11, none, .ix (.t 9) (.t 10)⟩, ⟨some 12, none, .bin .lss (.t 11) (.c (.d true (.int .u8 97)))⟩, ⟨some 13, none, .mv (.t 12)⟩, ⟨some 14, some (13, false), .mv (.t 0)⟩, ⟨some 15, some (13, false), .mv (.t 3)⟩, ⟨some 16, some (13, false), .ix (.t 14) (.t 15)⟩, ⟨some 17, some (13, false), .bin .gtr (.t 16) (.c (.d true (.int .u8 122)))⟩, ⟨some 18, none, .pick (.t 13) (.c (.d true (.bool true))) (.t 17)⟩] [0, 5, 6, 18]) (.cond (.t 18) (.seq (.region [⟨some 2, none, .mv (.c (.d true (.bool false)))⟩] [2]) (.ret)) (.skip))))) (.region [⟨some 19, none, .bin .add (.t 6) (.c (.d true (.int .i64 1)))⟩, ⟨some 6, none, .mv (.t 19)⟩] [0, 5, 6]))))))) (.seq (.region [⟨some 20, none, .mv (.t 0)⟩, ⟨some 21, none, .slen (.t 20)⟩, ⟨some 22, none, .call (.c (.fn 66 [])) [.t 21, .c (.d true (.int .i64 1)), .c (.d true (.int .i64 10))]⟩, ⟨some 2, none, .mv (.t 22)⟩] [2]) (.ret)))
theorem ok65 : FnOk Tryd.prog Tryd.f65 23 keep65 ac65 [.t 2] := by
  refine ⟨?_, ?_, ?_, ?_, ?_⟩ <;> kernel_rfl

/-! impl.in -/
def keep66 : Nat → List Nat
  | 0 => [0, 1, 2]
  | 1 => [6]
  | _ => []
def ac66 : AC := .seq (.region [⟨some 6, none, .mv (.c (.d true (.bool false)))⟩] [0, 1, 2]) (.seq (.region [⟨some 7, none, .mv (.t 0)⟩, ⟨some 8, none, .mv (.t 1)⟩, ⟨some 9, none, .bin .geq (.t 7) (.t 8)⟩, ⟨some 10, none, .mv (.t 9)⟩, ⟨some 11, some (10, true), .mv (.t 0)⟩, ⟨some 12, some (10, true), .mv (.t 2)⟩, ⟨some 13, some (10, true), .bin .leq (.t 11) (.t 12)⟩, ⟨some 14, none, .pick (.t 10) (.t 13) (.c (.d true (.bool false)))⟩, ⟨some 6, none, .mv (.t 14)⟩] [6]) (.ret))
theorem ok66 : FnOk Tryd.prog Tryd.f66 15 keep66 ac66 [.t 6] := by
  refine ⟨?_, ?_, ?_, ?_, ?_⟩ <;> kernel_rfl

/-! slices.ContainsFunc[[]string,string] -/
def keep67 : Nat → List Nat
  | 0 => [0, 1]
  | 1 => [4]
  | _ => []
def ac67 : AC := .seq (.region [⟨some 4, none, .mv (.c (.d true (.bool false)))⟩] [0, 1]) (.seq (.region [⟨some 5, none, .mv (.t 0)⟩, ⟨some 6, none, .mv (.t 1)⟩, ⟨some 7, none, .call (.c (.fn 112 [])) [.t 5, .t 6]⟩, ⟨some 8, none, .bin .geq (.t 7) (.c (.d true (.int .i64 0)))⟩, ⟨some 4, none, .mv (.t 8)⟩] [4]) (.ret))
theorem ok67 : FnOk Tryd.prog Tryd.f67 9 keep67 ac67 [.t 4] := by
  refine ⟨?_, ?_, ?_, ?_, ?_⟩ <;> kernel_rfl

/-! impl.PolicyOk$1 -/
def keep68 : Nat → List Nat
  | 0 => [0]
  | 1 => [2]
  | _ => []
def ac68 : AC := .seq (.region [⟨some 2, none, .mv (.c (.d true (.bool false)))⟩] [0]) (.seq (.region [⟨some 3, none, .mv (.t 0)⟩, ⟨some 4, none, .call (.c (.fn 16 [])) [.t 3]⟩, ⟨some 5, none, .not (.t 4)⟩, ⟨some 2, none, .mv (.t 5)⟩] [2]) (.ret))
theorem ok68 : FnOk Tryd.prog Tryd.f68 6 keep68 ac68 [.t 2] := by
  refine ⟨?_, ?_, ?_, ?_, ?_⟩ <;> kernel_rfl

/-! impl.isTime -/
def keep69 : Nat → List Nat
  | 0 => [0]
  | 1 => [2]
  | _ => []
def ac69 : AC := .seq (.region [⟨some 2, none, .mv (.c (.d true (.bool false)))⟩] [0]) (.seq (.region [⟨some 3, none, .mv (.t 0)⟩, ⟨some 4, none, .call (.c (.fn 66 [])) [.t 3, .c (.d true (.int .i64 0)), .c (.d true (.int .i64 100000))]⟩, ⟨some 2, none, .mv (.t 4)⟩] [2]) (.ret))
theorem ok69 : FnOk Tryd.prog Tryd.f69 5 keep69 ac69 [.t 2] := by
  refine ⟨?_, ?_, ?_, ?_, ?_⟩ <;> kernel_rfl

/-! laws.eqStringS -/
def keep70 : Nat → List Nat
  | 0 => [0, 1]
  | 1 => [0, 1, 10]
  | 2 => [4]
  | 3 => [0, 1, 5]
  | 4 => [0, 1, 5, 14]
  | 5 => [0, 1, 5]
  | 6 => [0, 1, 5, 25]
  | 7 => [4]
  | 8 => [4]
  | _ => []
def ac70 : AC := .seq (.region [⟨some 4, none, .mv (.c (.d true (.bool false)))⟩] [0, 1]) (.seq (.seq (.region [⟨some 6, none, .mv (.t 0)⟩, ⟨some 7, none, .len (.t 6)⟩, ⟨some 8, none, .mv (.t 1)⟩, ⟨some 9, none, .len (.t 8)⟩, ⟨some 10, none, .bin .neq (.t 7) (.t 9)⟩] [0, 1, 10]) (.cond (.t 10) (.seq (.region [⟨some 4, none, .mv (.c (.d true (.bool false)))⟩] [4]) (.ret)) (.skip))) (.seq (.seq (.region [⟨some 5, none, .mv (.c (.d true (.int .i64 0)))⟩] [0, 1, 5]) (.block 0 (.loop (.seq (.seq (.region [⟨some 11, none, .mv (.t 5)⟩, ⟨some 12, none, .mv (.t 0)⟩, ⟨some 13, none, .len (.t 12)⟩, ⟨some 14, none, .bin .lss (.t 11) (.t 13)⟩] [0, 1, 5, 14]) (.cond (.t 14) (.skip) (.exit 0))) (.seq (.block 1 (.seq (.draw [⟨some 17, none, .mv (.t 0)⟩, ⟨some 18, none, .mv (.t 5)⟩, ⟨some 19, none, .ia 1 (.t 17) (.t 18)⟩, ⟨some 20, none, .ld none (.t 19)⟩, ⟨some 21, none, .mv (.t 1)⟩, ⟨some 22, none, .mv (.t 5)⟩, ⟨some 23, none, .ia 1 (.t 21) (.t 22)⟩, ⟨some 24, none, .ld none (.t 23)⟩, ⟨some 25, none, .bin .neq (.t 20) (.t 24)⟩] [0, 1, 5, 25]) (.cond (.t 25) (.seq (.region [⟨some 4, none, .mv (.c (.d true (.bool false)))⟩] [4]) (.ret)) (.skip)))) (.region [⟨some 15, none, .mv (.t 5)⟩, ⟨some 16, none, .bin .add (.t 15) (.c (.d true (.int .i64 1)))⟩, ⟨some 5, none, .mv (.t 16)⟩] [0, 1, 5])))))) (.seq (.region [⟨some 4, none, .mv (.c (.d true (.bool true)))⟩] [4]) (.ret))))
theorem ok70 : FnOk Tryd.prog Tryd.f70 26 keep70 ac70 [.t 4] := by
  refine ⟨?_, ?_, ?_, ?_, ?_⟩ <;> kernel_rfl

/-! laws.szTermS -/
def keep71 : Nat → List Nat
  | 0 => [0, 1]
  | 1 => [0, 1]
  | 2 => [0, 1, 11]
  | 3 => [4]
  | 4 => [0, 1, 5]
  | 5 => [0, 1, 5, 15]
  | 6 => [0, 1, 5]
  | 7 => [0, 1, 5]
  | 8 => [0, 1, 5, 25]
  | 9 => [4]
  | 10 => [4]
  | _ => []
def ac71 : AC := .seq (.region [⟨some 4, none, .mv (.c (.d true (.int .i64 0)))⟩] [0, 1]) (.seq (.region [⟨some 6, none, .mv (.t 1)⟩, ⟨some 7, none, .mv (.t 0)⟩, ⟨some 8, none, .len (.t 7)⟩, ⟨some 9, none, .bin .sub (.t 6) (.t 8)⟩, ⟨some 1, none, .mv (.t 9)⟩] [0, 1]) (.seq (.seq (.region [⟨some 10, none, .mv (.t 1)⟩, ⟨some 11, none, .bin .lss (.t 10) (.c (.d true (.int .i64 0)))⟩] [0, 1, 11]) (.cond (.t 11) (.seq (.region [⟨some 4, none, .mv (.c (.d true (.int .i64 (-1))))⟩] [4]) (.ret)) (.skip))) (.seq (.seq (.region [⟨some 5, none, .mv (.c (.d true (.int .i64 0)))⟩] [0, 1, 5]) (.block 0 (.loop (.seq (.seq (.region [⟨some 12, none, .mv (.t 5)⟩, ⟨some 13, none, .mv (.t 0)⟩, ⟨some 14, none, .len (.t 13)⟩, ⟨some 15, none, .bin .lss (.t 12) (.t 14)⟩] [0, 1, 5, 15]) (.cond (.t 15) (.skip) (.exit 0))) (.seq (.block 1 (.seq (.region [⟨some 18, none, .mv (.t 0)⟩, ⟨some 19, none, .mv (.t 5)⟩, ⟨some 20, none, .ia 4 (.t 18) (.t 19)⟩, ⟨some 21, none, .ld (some 4) (.t 20)⟩, ⟨some 22, none, .mv (.t 1)⟩, ⟨some 23, none, .call (.c (.fn 24 [])) [.t 21, .t 22]⟩, ⟨some 1, none, .mv (.t 23)⟩] [0, 1, 5]) (.seq (.region [⟨some 24, none, .mv (.t 1)⟩, ⟨some 25, none, .bin .lss (.t 24) (.c (.d true (.int .i64 0)))⟩] [0, 1, 5, 25]) (.cond (.t 25) (.seq (.region [⟨some 4, none, .mv (.c (.d true (.int .i64 (-1))))⟩] [4]) (.ret)) (.skip))))) (.region [⟨some 16, none, .mv (.t 5)⟩, ⟨some 17, none, .bin .add (.t 16) (.c (.d true (.int .i64 1)))⟩, ⟨some 5, none, .mv (.t 17)⟩] [0, 1, 5])))))) (.seq (.region [⟨some 26, none, .mv (.t 1)⟩, ⟨some 4, none, .mv (.t 26)⟩] [4]) (.ret)))))
theorem ok71 : FnOk Tryd.prog Tryd.f71 27 keep71 ac71 [.t 4] := by
  refine ⟨?_, ?_, ?_, ?_, ?_⟩ <;> kernel_rfl

/-! spec.l1Digits -/
def keep72 : Nat → List Nat
  | 0 => [0]
  | 1 => [0, 7]
  | 2 => [2]
  | 3 => [0, 3]
  | 4 => [0, 3, 4]
  | 5 => [0, 3, 4, 11]
  | 6 => [0, 3, 4, 5]
  | 7 => [0, 3, 4, 5, 15]
  | 8 => [0, 3, 4, 5]
  | 9 => [0, 3, 4]
  | 10 => [0, 3, 4]
  | 11 => [4, 27]
  | 12 => [2]
  | 13 => [2]
  | _ => []
def ac72 : AC := .seq (.region [⟨some 2, none, .mv (.c (.d true (.str ⟨#[]⟩)))⟩] [0]) (.seq (.seq (.region [⟨some 6, none, .mv (.t 0)⟩, ⟨some 7, none, .bin .eql (.t 6) (.c (.d true (.int .i64 0)))⟩] [0, 7]) (.cond (.t 7) (.seq (.region [⟨some 2, none, .mv (.c (.d true (.str ⟨#[48]⟩)))⟩] [2]) (.ret)) (.skip))) (.seq (.region [⟨some 8, none, .mv (.t 0)⟩, ⟨some 9, none, .bin .lss (.t 8) (.c (.d true (.int .i64 0)))⟩, ⟨some 3, none, .mv (.t 9)⟩] [0, 3]) (.seq (.region [⟨some 4, none, .mv (.c (.d true (.str ⟨#[]⟩)))⟩] [0, 3, 4]) (.seq (.block 0 (.loop (.seq (.seq (.region [⟨some 10, none, .mv (.t 0)⟩, ⟨some 11, none, .bin .neq (.t 10) (.c (.d true (.int .i64 0)))⟩] [0, 3, 4, 11]) (.cond (.t 11) (.skip) (.exit 0))) (.block 1 (.seq (.region [⟨some 12, none, .mv (.t 0)⟩, ⟨some 13, none, .bin .rem (.t 12) (.c (.d true (.int .i64 10)))⟩, ⟨some 5, none, .mv (.t 13)⟩] [0, 3, 4, 5]) (.seq (.seq (.region [⟨some 14, none, .mv (.t 5)⟩, ⟨some 15, none, .bin .lss (.t 14) (.c (.d true (.int .i64 0)))⟩] [0, 3, 4, 5, 15]) (.cond (.t 15) (.region [⟨some 16, none, .mv (.t 5)⟩, ⟨some 17, none, .bin .sub (.c (.d true (.int .i64 0))) (.t 16)⟩, ⟨some 5, none, .mv (.t 17)⟩] [0, 3, 4, 5]) (.skip))) (.seq (.region [⟨some 18, none, .mv (.t 5)⟩, ⟨some 19, none, .bin .add (.c (.d true (.int .i64 48))) (.t 18)⟩, ⟨some 20, none, .cvi .u8 (.t 19)⟩, ⟨some 21, none, .bs 5 1 [.t 20]⟩, ⟨some 22, none, .bstr (.t 21)⟩, ⟨some 23, none, .mv (.t 4)⟩, ⟨some 24, none, .bin .add (.t 22) (.t 23)⟩, ⟨some 4, none, .mv (.t 24)⟩] [0, 3, 4]) (.region [⟨some 25, none, .mv (.t 0)⟩, ⟨some 26, none, .bin .quo (.t 25) (.c (.d true (.int .i64 10)))⟩, ⟨some 0, none, .mv (.t 26)⟩] [0, 3, 4])))))))) (.seq (.seq (.region [⟨some 27, none, .mv (.t 3)⟩] [4, 27]) (.cond (.t 27) (.seq (.region [⟨some 28, none, .mv (.t 4)⟩, ⟨some 29, none, .bin .add (.c (.d true (.str ⟨#[45]⟩))) (.t 28)⟩, ⟨some 2, none, .mv (.t 29)⟩] [2]) (.ret)) (.skip))) (.seq (.region [⟨some 30, none, .mv (.t 4)⟩, ⟨some 2, none, .mv (.t 30)⟩] [2]) (.ret)))))))
theorem ok72 : FnOk Tryd.prog Tryd.f72 31 keep72 ac72 [.t 2] := by
  refine ⟨?_, ?_, ?_, ?_, ?_⟩ <;> kernel_rfl

/-! laws.toTermS -/
def keep73 : Nat → List Nat
  | 0 => [0]
  | 1 => [0, 3]
  | 2 => [0, 3, 4]
  | 3 => [0, 3, 4, 11]
  | 4 => [0, 3, 4]
  | 5 => [0, 3, 4]
  | 6 => [2]
  | _ => []
def ac73 : AC := .seq (.region [⟨some 2, none, .own 40 4⟩] [0]) (.seq (.region [⟨some 5, none, .mv (.t 0)⟩, ⟨some 6, none, .len (.t 5)⟩, ⟨some 7, none, .mks 40 4 56 [.d true (.int .i64 0), .d true (.int .i64 0), .d true (.str ⟨#[]⟩), .nil] (.t 6) (.t 6)⟩, ⟨some 3, none, .mv (.t 7)⟩] [0, 3]) (.seq (.seq (.region [⟨some 4, none, .mv (.c (.d true (.int .i64 0)))⟩] [0, 3, 4]) (.block 0 (.loop (.seq (.seq (.region [⟨some 8, none, .mv (.t 4)⟩, ⟨some 9, none, .mv (.t 0)⟩, ⟨some 10, none, .len (.t 9)⟩, ⟨some 11, none, .bin .lss (.t 8) (.t 10)⟩] [0, 3, 4, 11]) (.cond (.t 11) (.skip) (.exit 0))) (.seq (.block 1 (.region [⟨some 14, none, .mv (.t 3)⟩, ⟨some 15, none, .mv (.t 4)⟩, ⟨some 16, none, .mv (.t 0)⟩, ⟨some 17, none, .mv (.t 4)⟩, ⟨some 18, none, .ia 4 (.t 16) (.t 17)⟩, ⟨some 19, none, .ld (some 4) (.t 18)⟩, ⟨some 20, none, .call (.c (.fn 26 [])) [.t 19]⟩, ⟨some 21, none, .ia 4 (.t 14) (.t 15)⟩, ⟨none, none, .st 4 (.t 21) (.t 20)⟩] [0, 3, 4])) (.region [⟨some 12, none, .mv (.t 4)⟩, ⟨some 13, none, .bin .add (.t 12) (.c (.d true (.int .i64 1)))⟩, ⟨some 4, none, .mv (.t 13)⟩] [0, 3, 4])))))) (.seq (.region [⟨some 22, none, .mv (.t 3)⟩, ⟨some 2, none, .mv (.t 22)⟩] [2]) (.ret))))
theorem ok73 : FnOk Tryd.prog Tryd.f73 23 keep73 ac73 [.t 2] := by
  refine ⟨?_, ?_, ?_, ?_, ?_⟩ <;> kernel_rfl

/-! laws.eqTermS -/
def keep76 : Nat → List Nat
  | 0 => [0, 1]
  | 1 => [0, 1, 10]
  | 2 => [4]
  | 3 => [0, 1, 5]
  | 4 => [0, 1, 5, 14]
  | 5 => [0, 1, 5]
  | 6 => [0, 1, 5, 26]
  | 7 => [4]
  | 8 => [4]
  | _ => []
def ac76 : AC := .seq (.region [⟨some 4, none, .mv (.c (.d true (.bool false)))⟩] [0, 1]) (.seq (.seq (.region [⟨some 6, none, .mv (.t 0)⟩, ⟨some 7, none, .len (.t 6)⟩, ⟨some 8, none, .mv (.t 1)⟩, ⟨some 9, none, .len (.t 8)⟩, ⟨some 10, none, .bin .neq (.t 7) (.t 9)⟩] [0, 1, 10]) (.cond (.t 10) (.seq (.region [⟨some 4, none, .mv (.c (.d true (.bool false)))⟩] [4]) (.ret)) (.skip))) (.seq (.seq (.region [⟨some 5, none, .mv (.c (.d true (.int .i64 0)))⟩] [0, 1, 5]) (.block 0 (.loop (.seq (.seq (.region [⟨some 11, none, .mv (.t 5)⟩, ⟨some 12, none, .mv (.t 0)⟩, ⟨some 13, none, .len (.t 12)⟩, ⟨some 14, none, .bin .lss (.t 11) (.t 13)⟩] [0, 1, 5, 14]) (.cond (.t 14) (.skip) (.exit 0))) (.seq (.block 1 (.seq (.draw [⟨some 17, none, .mv (.t 0)⟩, ⟨some 18, none, .mv (.t 5)⟩, ⟨some 19, none, .ia 4 (.t 17) (.t 18)⟩, ⟨some 20, none, .ld (some 4) (.t 19)⟩, ⟨some 21, none, .mv (.t 1)⟩, ⟨some 22, none, .mv (.t 5)⟩, ⟨some 23, none, .ia 4 (.t 21) (.t 22)⟩, ⟨some 24, none, .ld (some 4) (.t 23)⟩, ⟨some 25, none, .call (.c (.fn 28 [])) [.t 20, .t 24]⟩, ⟨some 26, none, .not (.t 25)⟩] [0, 1, 5, 26]) (.cond (.t 26) (.seq (.region [⟨some 4, none, .mv (.c (.d true (.bool false)))⟩] [4]) (.ret)) (.skip)))) (.region [⟨some 15, none, .mv (.t 5)⟩, ⟨some 16, none, .bin .add (.t 15) (.c (.d true (.int .i64 1)))⟩, ⟨some 5, none, .mv (.t 16)⟩] [0, 1, 5])))))) (.seq (.region [⟨some 4, none, .mv (.c (.d true (.bool true)))⟩] [4]) (.ret))))
theorem ok76 : FnOk Tryd.prog Tryd.f76 27 keep76 ac76 [.t 4] := by
  refine ⟨?_, ?_, ?_, ?_, ?_⟩ <;> kernel_rfl

/-! spec.Holds -/
def keep77 : Nat → List Nat
  | 0 => [1, 2]
  | 1 => [4]
  | _ => []
def ac77 : AC := .seq (.region [⟨some 2, none, .box (.t 0)⟩, ⟨some 4, none, .mv (.c (.d true (.bool false)))⟩] [1, 2]) (.seq (.region [⟨some 5, none, .fa 1 (.t 2)⟩, ⟨some 6, none, .ld none (.t 5)⟩, ⟨some 7, none, .bin .eql (.t 6) (.c (.d true (.int .i64 2)))⟩, ⟨some 8, none, .mv (.t 7)⟩, ⟨some 9, some (8, true), .fa 3 (.t 2)⟩, ⟨some 10, some (8, true), .ld none (.t 9)⟩, ⟨some 11, some (8, true), .mv (.t 1)⟩, ⟨some 12, some (8, true), .bin .geq (.t 10) (.t 11)⟩, ⟨some 13, none, .pick (.t 8) (.t 12) (.c (.d true (.bool false)))⟩, ⟨some 4, none, .mv (.t 13)⟩] [4]) (.ret))
theorem ok77 : FnOk Tryd.prog Tryd.f77 14 keep77 ac77 [.t 4] := by
  refine ⟨?_, ?_, ?_, ?_, ?_⟩ <;> kernel_rfl

/-! impl.Holds -/
def keep78 : Nat → List Nat
  | 0 => [1, 2]
  | 1 => [4]
  | _ => []
def ac78 : AC := .seq (.region [⟨some 2, none, .box (.t 0)⟩, ⟨some 4, none, .mv (.c (.d true (.bool false)))⟩] [1, 2]) (.seq (.region [⟨some 5, none, .fa 1 (.t 2)⟩, ⟨some 6, none, .ld none (.t 5)⟩, ⟨some 7, none, .bin .eql (.t 6) (.c (.d true (.int .i64 2)))⟩, ⟨some 8, none, .mv (.t 7)⟩, ⟨some 9, some (8, true), .fa 3 (.t 2)⟩, ⟨some 10, some (8, true), .ld none (.t 9)⟩, ⟨some 11, some (8, true), .mv (.t 1)⟩, ⟨some 12, some (8, true), .bin .geq (.t 10) (.t 11)⟩, ⟨some 13, none, .pick (.t 8) (.t 12) (.c (.d true (.bool false)))⟩, ⟨some 4, none, .mv (.t 13)⟩] [4]) (.ret))
theorem ok78 : FnOk Tryd.prog Tryd.f78 14 keep78 ac78 [.t 4] := by
  refine ⟨?_, ?_, ?_, ?_, ?_⟩ <;> kernel_rfl

/-! impl.May$1 -/
def keep79 : Nat → List Nat
  | 0 => [0, 1]
  | 1 => [3]
  | _ => []
def ac79 : AC := .seq (.region [⟨some 3, none, .mv (.c (.d true (.bool false)))⟩] [0, 1]) (.seq (.region [⟨some 4, none, .mv (.t 0)⟩, ⟨some 5, none, .ld none (.t 1)⟩, ⟨some 6, none, .call (.c (.fn 18 [])) [.t 4, .t 5]⟩, ⟨some 3, none, .mv (.t 6)⟩] [3]) (.ret))
theorem ok79 : FnOk Tryd.prog Tryd.f79 7 keep79 ac79 [.t 3] := by
  refine ⟨?_, ?_, ?_, ?_, ?_⟩ <;> kernel_rfl

/-! spec.TermOk -/
def keep80 : Nat → List Nat
  | 0 => [1]
  | 1 => [2]
  | _ => []
def ac80 : AC := .seq (.region [⟨some 1, none, .box (.t 0)⟩, ⟨some 2, none, .mv (.c (.d true (.bool false)))⟩] [1]) (.seq (.region [⟨some 3, none, .ld (some 4) (.t 1)⟩, ⟨some 4, none, .call (.c (.fn 117 [])) [.t 3]⟩, ⟨some 5, none, .bin .leq (.t 4) (.c (.d true (.int .i64 200)))⟩, ⟨some 6, none, .mv (.t 5)⟩, ⟨some 7, some (6, true), .ld (some 4) (.t 1)⟩, ⟨some 8, some (6, true), .call (.c (.fn 118 [])) [.t 7]⟩, ⟨some 9, none, .pick (.t 6) (.t 8) (.c (.d true (.bool false)))⟩, ⟨some 2, none, .mv (.t 9)⟩] [2]) (.ret))
theorem ok80 : FnOk Tryd.prog Tryd.f80 10 keep80 ac80 [.t 2] := by
  refine ⟨?_, ?_, ?_, ?_, ?_⟩ <;> kernel_rfl

/-! impl.TermOk -/
def keep81 : Nat → List Nat
  | 0 => [1]
  | 1 => [2]
  | _ => []
def ac81 : AC := .seq (.region [⟨some 1, none, .box (.t 0)⟩, ⟨some 2, none, .mv (.c (.d true (.bool false)))⟩] [1]) (.seq (.region [⟨some 3, none, .ld (some 4) (.t 1)⟩, ⟨some 4, none, .call (.c (.fn 119 [])) [.t 3]⟩, ⟨some 5, none, .bin .leq (.t 4) (.c (.d true (.int .i64 200)))⟩, ⟨some 6, none, .mv (.t 5)⟩, ⟨some 7, some (6, true), .ld (some 4) (.t 1)⟩, ⟨some 8, some (6, true), .call (.c (.fn 120 [])) [.t 7]⟩, ⟨some 9, none, .pick (.t 6) (.t 8) (.c (.d true (.bool false)))⟩, ⟨some 2, none, .mv (.t 9)⟩] [2]) (.ret))
theorem ok81 : FnOk Tryd.prog Tryd.f81 10 keep81 ac81 [.t 2] := by
  refine ⟨?_, ?_, ?_, ?_, ?_⟩ <;> kernel_rfl

/-! spec.Same -/
def keep82 : Nat → List Nat
  | 0 => [2, 3]
  | 1 => [2, 3, 33]
  | 2 => [4]
  | 3 => [2, 3, 5]
  | 4 => [2, 3, 5, 38]
  | 5 => [2, 3, 5]
  | 6 => [2, 3, 5, 52]
  | 7 => [4]
  | 8 => [4]
  | _ => []
def ac82 : AC := .seq (.region [⟨some 2, none, .box (.t 0)⟩, ⟨some 3, none, .box (.t 1)⟩, ⟨some 4, none, .mv (.c (.d true (.bool false)))⟩] [2, 3]) (.seq (.seq (.region [⟨some 6, none, .fa 0 (.t 2)⟩, ⟨some 7, none, .ld none (.t 6)⟩, ⟨some 8, none, .fa 0 (.t 3)⟩, ⟨some 9, none, .ld none (.t 8)⟩, ⟨some 10, none, .bin .neq (.t 7) (.t 9)⟩, ⟨some 11, none, .mv (.t 10)⟩, ⟨some 12, some (11, false), .fa 1 (.t 2)⟩, ⟨some 13, some (11, false), .ld none (.t 12)⟩, ⟨some 14, some (11, false), .fa 1 (.t 3)⟩, ⟨some 15, some (11, false), .ld none (.t 14)⟩, ⟨some 16, some (11, false), .bin .neq (.t 13) (.t 15)⟩, ⟨some 17, none, .pick (.t 11) (.c (.d true (.bool true))) (.t 16)⟩, ⟨some 18, none, .mv (.t 17)⟩, ⟨some 19, some (18, false), .fa 2 (.t 2)⟩, ⟨some 20, some (18, false), .ld none (.t 19)⟩, ⟨some 21, some (18, false), .fa 2 (.t 3)⟩, ⟨some 22, some (18, false), .ld none (.t 21)⟩, ⟨some 23, some (18, false), .bin .neq (.t 20) (.t 22)⟩, ⟨some 24, none, .pick (.t 18) (.c (.d true (.bool true))) (.t 23)⟩, ⟨some 25, none, .mv (.t 24)⟩, ⟨some 26, some (25, false), .fa 3 (.t 2)⟩, ⟨some 27, some (25, false), .ld none (.t 26)⟩, ⟨some 28, some (25, false), .len (.t 27)⟩, ⟨some 29, some (25, false), .fa 3 (.t 3)⟩, ⟨some 30, some (25, false), .ld none (.t 29)⟩, ⟨some 31, some (25, false), .len (.t 30)⟩, ⟨some 32, some (25, false), .bin .neq (.t 28) (.t 31)⟩, ⟨some 33, none, .pick (.t 25) (.c (.d true (.bool true))) (.t 32)⟩] [2, 3, 33]) (.cond (.t 33) (.seq (.region [⟨some 4, none, .mv (.c (.d true (.bool false)))⟩] [4]) (.ret)) (.skip))) (.seq (.seq (.region [⟨some 5, none, .mv (.c (.d true (.int .i64 0)))⟩] [2, 3, 5]) (.block 0 (.loop (.seq (.seq (.region [⟨some 34, none, .mv (.t 5)⟩, ⟨some 35, none, .fa 3 (.t 2)⟩, ⟨some 36, none, .ld none (.t 35)⟩, ⟨some 37, none, .len (.t 36)⟩, ⟨some 38, none, .bin .lss (.t 34) (.t 37)⟩] [2, 3, 5, 38]) (.cond (.t 38) (.skip) (.exit 0))) (.seq (.block 1 (.seq (.draw [⟨some 41, none, .fa 3 (.t 2)⟩, ⟨some 42, none, .ld none (.t 41)⟩, ⟨some 43, none, .mv (.t 5)⟩, ⟨some 44, none, .ia 4 (.t 42) (.t 43)⟩, ⟨some 45, none, .ld (some 4) (.t 44)⟩, ⟨some 46, none, .fa 3 (.t 3)⟩, ⟨some 47, none, .ld none (.t 46)⟩, ⟨some 48, none, .mv (.t 5)⟩, ⟨some 49, none, .ia 4 (.t 47) (.t 48)⟩, ⟨some 50, none, .ld (some 4) (.t 49)⟩, ⟨some 51, none, .call (.c (.fn 82 [])) [.t 45, .t 50]⟩, ⟨some 52, none, .not (.t 51)⟩] [2, 3, 5, 52]) (.cond (.t 52) (.seq (.region [⟨some 4, none, .mv (.c (.d true (.bool false)))⟩] [4]) (.ret)) (.skip)))) (.region [⟨some 39, none, .mv (.t 5)⟩, ⟨some 40, none, .bin .add (.t 39) (.c (.d true (.int .i64 1)))⟩, ⟨some 5, none, .mv (.t 40)⟩] [2, 3, 5])))))) (.seq (.region [⟨some 4, none, .mv (.c (.d true (.bool true)))⟩] [4]) (.ret))))
theorem ok82 : FnOk Tryd.prog Tryd.f82 53 keep82 ac82 [.t 4] := by
  refine ⟨?_, ?_, ?_, ?_, ?_⟩ <;> kernel_rfl

/-! spec.l3Num -/
def keep83 : Nat → List Nat
  | 0 => [0, 2]
  | 1 => [2]
  | _ => []
def ac83 : AC := .seq (.region [⟨some 2, none, .alloc [.d true (.int .i64 0), .d true (.int .i64 0), .d true (.str ⟨#[]⟩), .nil]⟩] [0, 2]) (.seq (.region [⟨some 3, none, .mv (.t 0)⟩, ⟨some 4, none, .call (.c (.fn 72 [])) [.t 3]⟩, ⟨some 5, none, .bld [.d true (.int .i64 0), .d true (.int .i64 0), .d true (.str ⟨#[]⟩), .nil] [(0, 1, .c (.d true (.int .i64 2))), (2, 1, .t 4)]⟩, ⟨none, none, .st 4 (.t 2) (.t 5)⟩] [2]) (.ret))
theorem ok83 : FnOk Tryd.prog Tryd.f83 6 keep83 ac83 [.c 2 (some 4)] := by
  refine ⟨?_, ?_, ?_, ?_, ?_⟩ <;> kernel_rfl

/-! spec.l1Copy -/
def keep84 : Nat → List Nat
  | 0 => [1, 2]
  | 1 => [1, 2, 3]
  | 2 => [1, 2, 3, 4]
  | 3 => [1, 2, 3, 4, 16]
  | 4 => [1, 2, 3, 4]
  | 5 => [1, 2, 3, 4]
  | 6 => [2]
  | 1000005 => [1]
  | _ => []
def ac84 : AC := .seq (.region [⟨some 1, none, .box (.t 0)⟩, ⟨some 2, none, .alloc [.d true (.int .i64 0), .d true (.int .i64 0), .d true (.str ⟨#[]⟩), .nil]⟩] [1, 2]) (.seq (.region [⟨some 5, none, .fa 0 (.t 1)⟩, ⟨some 6, none, .ld none (.t 5)⟩, ⟨some 7, none, .fa 1 (.t 1)⟩, ⟨some 8, none, .ld none (.t 7)⟩, ⟨some 9, none, .fa 2 (.t 1)⟩, ⟨some 10, none, .ld none (.t 9)⟩, ⟨some 11, none, .bld [.d true (.int .i64 0), .d true (.int .i64 0), .d true (.str ⟨#[]⟩), .nil] [(0, 1, .t 6), (1, 1, .t 8), (2, 1, .t 10)]⟩, ⟨some 3, none, .alloc [.d true (.int .i64 0), .d true (.int .i64 0), .d true (.str ⟨#[]⟩), .nil]⟩, ⟨none, none, .st 4 (.t 3) (.t 11)⟩] [1, 2, 3]) (.seq (.seq (.region [⟨some 4, none, .mv (.c (.d true (.int .i64 0)))⟩] [1, 2, 3, 4]) (.block 0 (.loop (.seq (.seq (.region [⟨some 12, none, .mv (.t 4)⟩, ⟨some 13, none, .fa 3 (.t 1)⟩, ⟨some 14, none, .ld none (.t 13)⟩, ⟨some 15, none, .len (.t 14)⟩, ⟨some 16, none, .bin .lss (.t 12) (.t 15)⟩] [1, 2, 3, 4, 16]) (.cond (.t 16) (.skip) (.exit 0))) (.seq (.block 1 (.tree (.take ⟨some 19, none, .fa 3 (.t 3)⟩ (.take ⟨some 21, none, .fa 3 (.t 1)⟩ (.take ⟨some 22, none, .ld none (.t 21)⟩ (.take ⟨some 23, none, .mv (.t 4)⟩ (.take ⟨some 24, none, .ia 4 (.t 22) (.t 23)⟩ (.take ⟨some 25, none, .ld (some 4) (.t 24)⟩ (.br (.cons ⟨some 20, none, .ld none (.t 19)⟩ (.br (.cons ⟨some 26, none, .call (.c (.fn 84 [])) [.t 25]⟩ (.br (.cons ⟨some 27, none, .bs 40 4 [.t 26]⟩ (.br (.cons ⟨some 28, none, .app 40 4 56 (.t 20) (.t 27)⟩ (.take ⟨some 29, none, .fa 3 (.t 3)⟩ (.br (.cons ⟨none, none, .st 1 (.t 29) (.t 28)⟩ (.done) (.nil)))) (.nil))) (.nil))) (.nil))) (.cons ⟨some 26, none, .call (.c (.fn 84 [])) [.t 25]⟩ (.br (.cons ⟨some 20, none, .ld none (.t 19)⟩ (.br (.cons ⟨some 27, none, .bs 40 4 [.t 26]⟩ (.br (.cons ⟨some 28, none, .app 40 4 56 (.t 20) (.t 27)⟩ (.take ⟨some 29, none, .fa 3 (.t 3)⟩ (.br (.cons ⟨none, none, .st 1 (.t 29) (.t 28)⟩ (.done) (.nil)))) (.nil))) (.nil))) (.cons ⟨some 27, none, .bs 40 4 [.t 26]⟩ (.br (.cons ⟨some 20, none, .ld none (.t 19)⟩ (.br (.cons ⟨some 28, none, .app 40 4 56 (.t 20) (.t 27)⟩ (.take ⟨some 29, none, .fa 3 (.t 3)⟩ (.br (.cons ⟨none, none, .st 1 (.t 29) (.t 28)⟩ (.done) (.nil)))) (.nil))) (.nil))) (.nil)))) (.nil)))))))))) [1, 2, 3, 4])) (.region [⟨some 17, none, .mv (.t 4)⟩, ⟨some 18, none, .bin .add (.t 17) (.c (.d true (.int .i64 1)))⟩, ⟨some 4, none, .mv (.t 18)⟩] [1, 2, 3, 4])))))) (.seq (.region [⟨some 30, none, .ld (some 4) (.t 3)⟩, ⟨none, none, .st 4 (.t 2) (.t 30)⟩] [2]) (.ret))))
theorem ok84 : FnOk Tryd.prog Tryd.f84 31 keep84 ac84 [.c 2 (some 4)] := by
  refine ⟨?_, ?_, ?_, ?_, ?_⟩ <;> kernel_rfl

/-! impl.Same -/
def keep85 : Nat → List Nat
  | 0 => [2, 3]
  | 1 => [4]
  | _ => []
def ac85 : AC := .seq (.region [⟨some 2, none, .box (.t 0)⟩, ⟨some 3, none, .box (.t 1)⟩, ⟨some 4, none, .mv (.c (.d true (.bool false)))⟩] [2, 3]) (.seq (.region [⟨some 5, none, .fa 0 (.t 2)⟩, ⟨some 6, none, .ld none (.t 5)⟩, ⟨some 7, none, .fa 0 (.t 3)⟩, ⟨some 8, none, .ld none (.t 7)⟩, ⟨some 9, none, .bin .eql (.t 6) (.t 8)⟩, ⟨some 10, none, .mv (.t 9)⟩, ⟨some 11, some (10, true), .fa 1 (.t 2)⟩, ⟨some 12, some (10, true), .ld none (.t 11)⟩, ⟨some 13, some (10, true), .fa 1 (.t 3)⟩, ⟨some 14, some (10, true), .ld none (.t 13)⟩, ⟨some 15, some (10, true), .bin .eql (.t 12) (.t 14)⟩, ⟨some 16, none, .pick (.t 10) (.t 15) (.c (.d true (.bool false)))⟩, ⟨some 17, none, .mv (.t 16)⟩, ⟨some 18, some (17, true), .fa 2 (.t 2)⟩, ⟨some 19, some (17, true), .ld none (.t 18)⟩, ⟨some 20, some (17, true), .fa 2 (.t 3)⟩, ⟨some 21, some (17, true), .ld none (.t 20)⟩, ⟨some 22, some (17, true), .bin .eql (.t 19) (.t 21)⟩, ⟨some 23, none, .pick (.t 17) (.t 22) (.c (.d true (.bool false)))⟩, ⟨some 24, none, .mv (.t 23)⟩, ⟨some 25, some (24, true), .fa 3 (.t 2)⟩, ⟨some 26, some (24, true), .ld none (.t 25)⟩, ⟨some 27, some (24, true), .fa 3 (.t 3)⟩, ⟨some 28, some (24, true), .ld none (.t 27)⟩, ⟨some 29, some (24, true), .call (.c (.fn 121 [])) [.t 26, .t 28, .c (.fn 85 [])]⟩, ⟨some 30, none, .pick (.t 24) (.t 29) (.c (.d true (.bool false)))⟩, ⟨some 4, none, .mv (.t 30)⟩] [4]) (.ret))
theorem ok85 : FnOk Tryd.prog Tryd.f85 31 keep85 ac85 [.t 4] := by
  refine ⟨?_, ?_, ?_, ?_, ?_⟩ <;> kernel_rfl

/-! impl.digits -/
def keep86 : Nat → List Nat
  | 0 => [0, 2]
  | 1 => [2]
  | _ => []
def ac86 : AC := .seq (.region [⟨some 2, none, .alloc [.d true (.int .i64 0), .d true (.int .i64 0), .d true (.str ⟨#[]⟩), .nil]⟩] [0, 2]) (.seq (.region [⟨some 3, none, .mv (.t 0)⟩, ⟨some 4, none, .call (.c (.fn 74 [])) [.t 3]⟩, ⟨some 5, none, .call (.c (.fn 97 [])) [.t 4]⟩, ⟨none, none, .st 4 (.t 2) (.t 5)⟩] [2]) (.ret))
theorem ok86 : FnOk Tryd.prog Tryd.f86 6 keep86 ac86 [.c 2 (some 4)] := by
  refine ⟨?_, ?_, ?_, ?_, ?_⟩ <;> kernel_rfl

/-! impl.clone -/
def keep87 : Nat → List Nat
  | 0 => [1, 2]
  | 1 => [1, 2]
  | 2 => [2]
  | _ => []
def ac87 : AC := .seq (.region [⟨some 1, none, .box (.t 0)⟩, ⟨some 2, none, .alloc [.d true (.int .i64 0), .d true (.int .i64 0), .d true (.str ⟨#[]⟩), .nil]⟩] [1, 2]) (.seq (.region [⟨some 3, none, .fa 3 (.t 1)⟩, ⟨some 4, none, .ld none (.t 3)⟩, ⟨some 5, none, .call (.c (.fn 122 [])) [.t 4]⟩, ⟨some 6, none, .fa 3 (.t 1)⟩, ⟨none, none, .st 1 (.t 6) (.t 5)⟩] [1, 2]) (.seq (.region [⟨some 7, none, .ld (some 4) (.t 1)⟩, ⟨none, none, .st 4 (.t 2) (.t 7)⟩] [2]) (.ret)))
theorem ok87 : FnOk Tryd.prog Tryd.f87 8 keep87 ac87 [.c 2 (some 4)] := by
  refine ⟨?_, ?_, ?_, ?_, ?_⟩ <;> kernel_rfl

/-! laws.markTermS -/
def keep88 : Nat → List Nat
  | 0 => [0, 1]
  | 1 => [0, 1, 5]
  | 2 => [0, 1, 5, 9]
  | 3 => [0, 1, 5]
  | 4 => [0, 1, 5]
  | 5 => [0, 1, 5]
  | 6 => [0, 1, 5]
  | 7 => [0, 1, 5]
  | 8 => [0, 1, 5]
  | 9 => [0, 1, 5]
  | 10 => [0, 1, 5]
  | 11 => [4]
  | _ => []
def ac88 : AC := .seq (.region [⟨some 4, none, .mv (.c (.d true (.int .i64 0)))⟩] [0, 1]) (.seq (.seq (.region [⟨some 5, none, .mv (.c (.d true (.int .i64 0)))⟩] [0, 1, 5]) (.block 0 (.loop (.seq (.seq (.region [⟨some 6, none, .mv (.t 5)⟩, ⟨some 7, none, .mv (.t 0)⟩, ⟨some 8, none, .len (.t 7)⟩, ⟨some 9, none, .bin .lss (.t 6) (.t 8)⟩] [0, 1, 5, 9]) (.cond (.t 9) (.skip) (.exit 0))) (.seq (.block 1 (.seq (.region [⟨some 12, none, .mv (.t 0)⟩, ⟨some 13, none, .mv (.t 5)⟩, ⟨some 14, none, .mv (.t 1)⟩, ⟨some 15, none, .ia 4 (.t 12) (.t 13)⟩, ⟨some 16, none, .fa 0 (.t 15)⟩, ⟨none, none, .st 1 (.t 16) (.t 14)⟩] [0, 1, 5]) (.seq (.region [⟨some 17, none, .mv (.t 1)⟩, ⟨some 18, none, .bin .add (.t 17) (.c (.d true (.int .i64 1)))⟩, ⟨some 1, none, .mv (.t 18)⟩] [0, 1, 5]) (.seq (.region [⟨some 19, none, .mv (.t 0)⟩, ⟨some 20, none, .mv (.t 5)⟩, ⟨some 21, none, .mv (.t 1)⟩, ⟨some 22, none, .ia 4 (.t 19) (.t 20)⟩, ⟨some 23, none, .fa 1 (.t 22)⟩, ⟨none, none, .st 1 (.t 23) (.t 21)⟩] [0, 1, 5]) (.seq (.region [⟨some 24, none, .mv (.t 1)⟩, ⟨some 25, none, .bin .add (.t 24) (.c (.d true (.int .i64 1)))⟩, ⟨some 1, none, .mv (.t 25)⟩] [0, 1, 5]) (.seq (.region [⟨some 26, none, .mv (.t 0)⟩, ⟨some 27, none, .mv (.t 5)⟩, ⟨some 28, none, .mv (.t 1)⟩, ⟨some 29, none, .call (.c (.fn 123 [])) [.t 28]⟩, ⟨some 30, none, .ia 4 (.t 26) (.t 27)⟩, ⟨some 31, none, .fa 2 (.t 30)⟩, ⟨none, none, .st 1 (.t 31) (.t 29)⟩] [0, 1, 5]) (.seq (.region [⟨some 32, none, .mv (.t 1)⟩, ⟨some 33, none, .bin .add (.t 32) (.c (.d true (.int .i64 1)))⟩, ⟨some 1, none, .mv (.t 33)⟩] [0, 1, 5]) (.region [⟨some 34, none, .mv (.t 0)⟩, ⟨some 35, none, .mv (.t 5)⟩, ⟨some 36, none, .ia 4 (.t 34) (.t 35)⟩, ⟨some 37, none, .fa 3 (.t 36)⟩, ⟨some 38, none, .ld none (.t 37)⟩, ⟨some 39, none, .mv (.t 1)⟩, ⟨some 40, none, .call (.c (.fn 88 [])) [.t 38, .t 39]⟩, ⟨some 1, none, .mv (.t 40)⟩] [0, 1, 5])))))))) (.region [⟨some 10, none, .mv (.t 5)⟩, ⟨some 11, none, .bin .add (.t 10) (.c (.d true (.int .i64 1)))⟩, ⟨some 5, none, .mv (.t 11)⟩] [0, 1, 5])))))) (.seq (.region [⟨some 41, none, .mv (.t 1)⟩, ⟨some 4, none, .mv (.t 41)⟩] [4]) (.ret)))
theorem ok88 : FnOk Tryd.prog Tryd.f88 42 keep88 ac88 [.t 4] := by
  refine ⟨?_, ?_, ?_, ?_, ?_⟩ <;> kernel_rfl

/-! laws.heldTermS -/
def keep89 : Nat → List Nat
  | 0 => [0, 1]
  | 1 => [0, 1, 5]
  | 2 => [0, 1, 5, 9]
  | 3 => [0, 1, 5]
  | 4 => [0, 1, 5, 18]
  | 5 => [4]
  | 6 => [0, 1, 5]
  | 7 => [0, 1, 5, 27]
  | 8 => [4]
  | 9 => [0, 1, 5]
  | 10 => [0, 1, 5, 37]
  | 11 => [4]
  | 12 => [0, 1, 5]
  | 13 => [0, 1, 5]
  | 14 => [0, 1, 5, 48]
  | 15 => [4]
  | 16 => [4]
  | _ => []
def ac89 : AC := .seq (.region [⟨some 4, none, .mv (.c (.d true (.int .i64 0)))⟩] [0, 1]) (.seq (.seq (.region [⟨some 5, none, .mv (.c (.d true (.int .i64 0)))⟩] [0, 1, 5]) (.block 0 (.loop (.seq (.seq (.region [⟨some 6, none, .mv (.t 5)⟩, ⟨some 7, none, .mv (.t 0)⟩, ⟨some 8, none, .len (.t 7)⟩, ⟨some 9, none, .bin .lss (.t 6) (.t 8)⟩] [0, 1, 5, 9]) (.cond (.t 9) (.skip) (.exit 0))) (.seq (.block 1 (.seq (.seq (.region [⟨some 12, none, .mv (.t 0)⟩, ⟨some 13, none, .mv (.t 5)⟩, ⟨some 14, none, .ia 4 (.t 12) (.t 13)⟩, ⟨some 15, none, .fa 0 (.t 14)⟩, ⟨some 16, none, .ld none (.t 15)⟩, ⟨some 17, none, .mv (.t 1)⟩, ⟨some 18, none, .bin .neq (.t 16) (.t 17)⟩] [0, 1, 5, 18]) (.cond (.t 18) (.seq (.region [⟨some 4, none, .mv (.c (.d true (.int .i64 (-1))))⟩] [4]) (.ret)) (.skip))) (.seq (.region [⟨some 19, none, .mv (.t 1)⟩, ⟨some 20, none, .bin .add (.t 19) (.c (.d true (.int .i64 1)))⟩, ⟨some 1, none, .mv (.t 20)⟩] [0, 1, 5]) (.seq (.seq (.region [⟨some 21, none, .mv (.t 0)⟩, ⟨some 22, none, .mv (.t 5)⟩, ⟨some 23, none, .ia 4 (.t 21) (.t 22)⟩, ⟨some 24, none, .fa 1 (.t 23)⟩, ⟨some 25, none, .ld none (.t 24)⟩, ⟨some 26, none, .mv (.t 1)⟩, ⟨some 27, none, .bin .neq (.t 25) (.t 26)⟩] [0, 1, 5, 27]) (.cond (.t 27) (.seq (.region [⟨some 4, none, .mv (.c (.d true (.int .i64 (-1))))⟩] [4]) (.ret)) (.skip))) (.seq (.region [⟨some 28, none, .mv (.t 1)⟩, ⟨some 29, none, .bin .add (.t 28) (.c (.d true (.int .i64 1)))⟩, ⟨some 1, none, .mv (.t 29)⟩] [0, 1, 5]) (.seq (.seq (.draw [⟨some 30, none, .mv (.t 0)⟩, ⟨some 31, none, .mv (.t 5)⟩, ⟨some 32, none, .ia 4 (.t 30) (.t 31)⟩, ⟨some 33, none, .fa 2 (.t 32)⟩, ⟨some 34, none, .ld none (.t 33)⟩, ⟨some 35, none, .mv (.t 1)⟩, ⟨some 36, none, .call (.c (.fn 123 [])) [.t 35]⟩, ⟨some 37, none, .bin .neq (.t 34) (.t 36)⟩] [0, 1, 5, 37]) (.cond (.t 37) (.seq (.region [⟨some 4, none, .mv (.c (.d true (.int .i64 (-1))))⟩] [4]) (.ret)) (.skip))) (.seq (.region [⟨some 38, none, .mv (.t 1)⟩, ⟨some 39, none, .bin .add (.t 38) (.c (.d true (.int .i64 1)))⟩, ⟨some 1, none, .mv (.t 39)⟩] [0, 1, 5]) (.seq (.region [⟨some 40, none, .mv (.t 0)⟩, ⟨some 41, none, .mv (.t 5)⟩, ⟨some 42, none, .ia 4 (.t 40) (.t 41)⟩, ⟨some 43, none, .fa 3 (.t 42)⟩, ⟨some 44, none, .ld none (.t 43)⟩, ⟨some 45, none, .mv (.t 1)⟩, ⟨some 46, none, .call (.c (.fn 89 [])) [.t 44, .t 45]⟩, ⟨some 1, none, .mv (.t 46)⟩] [0, 1, 5]) (.seq (.region [⟨some 47, none, .mv (.t 1)⟩, ⟨some 48, none, .bin .lss (.t 47) (.c (.d true (.int .i64 0)))⟩] [0, 1, 5, 48]) (.cond (.t 48) (.seq (.region [⟨some 4, none, .mv (.c (.d true (.int .i64 (-1))))⟩] [4]) (.ret)) (.skip))))))))))) (.region [⟨some 10, none, .mv (.t 5)⟩, ⟨some 11, none, .bin .add (.t 10) (.c (.d true (.int .i64 1)))⟩, ⟨some 5, none, .mv (.t 11)⟩] [0, 1, 5])))))) (.seq (.region [⟨some 49, none, .mv (.t 1)⟩, ⟨some 4, none, .mv (.t 49)⟩] [4]) (.ret)))
theorem ok89 : FnOk Tryd.prog Tryd.f89 50 keep89 ac89 [.t 4] := by
  refine ⟨?_, ?_, ?_, ?_, ?_⟩ <;> kernel_rfl

/-! spec.l3Two -/
def keep90 : Nat → List Nat
  | 0 => [0, 4, 5, 6]
  | 1 => [6]
  | 1000001 => [1]
  | _ => []
def ac90 : AC := .seq (.region [⟨some 4, none, .box (.t 1)⟩, ⟨some 5, none, .box (.t 2)⟩, ⟨some 6, none, .alloc [.d true (.int .i64 0), .d true (.int .i64 0), .d true (.str ⟨#[]⟩), .nil]⟩] [0, 4, 5, 6]) (.seq (.tree (.take ⟨some 7, none, .mv (.t 0)⟩ (.take ⟨some 8, none, .ld (some 4) (.t 4)⟩ (.take ⟨some 10, none, .ld (some 4) (.t 5)⟩ (.br (.cons ⟨some 9, none, .call (.c (.fn 84 [])) [.t 8]⟩ (.br (.cons ⟨some 11, none, .call (.c (.fn 84 [])) [.t 10]⟩ (.br (.cons ⟨some 12, none, .bs 40 4 [.t 9, .t 11]⟩ (.take ⟨some 13, none, .bld [.d true (.int .i64 0), .d true (.int .i64 0), .d true (.str ⟨#[]⟩), .nil] [(0, 1, .t 7), (3, 1, .t 12)]⟩ (.br (.cons ⟨some 14, none, .call (.c (.fn 124 [])) [.t 13]⟩ (.br (.cons ⟨none, none, .st 4 (.t 6) (.t 14)⟩ (.done) (.nil))) (.nil)))) (.nil))) (.nil))) (.nil)))))) [6]) (.ret))
theorem ok90 : FnOk Tryd.prog Tryd.f90 15 keep90 ac90 [.c 6 (some 4)] := by
  refine ⟨?_, ?_, ?_, ?_, ?_⟩ <;> kernel_rfl

/-! spec.Pair -/
def keep91 : Nat → List Nat
  | 0 => [2, 3, 4]
  | 1 => [4]
  | _ => []
def ac91 : AC := .seq (.region [⟨some 2, none, .box (.t 0)⟩, ⟨some 3, none, .box (.t 1)⟩, ⟨some 4, none, .alloc [.d true (.int .i64 0), .d true (.int .i64 0), .d true (.str ⟨#[]⟩), .nil]⟩] [2, 3, 4]) (.seq (.region [⟨some 5, none, .ld (some 4) (.t 2)⟩, ⟨some 6, none, .ld (some 4) (.t 3)⟩, ⟨some 7, none, .call (.c (.fn 90 [])) [.c (.d true (.int .i64 3)), .t 5, .t 6]⟩, ⟨none, none, .st 4 (.t 4) (.t 7)⟩] [4]) (.ret))
theorem ok91 : FnOk Tryd.prog Tryd.f91 8 keep91 ac91 [.c 4 (some 4)] := by
  refine ⟨?_, ?_, ?_, ?_, ?_⟩ <;> kernel_rfl

/-! impl.right -/
def keep92 : Nat → List Nat
  | 0 => [1, 2]
  | 1 => [1, 2, 5]
  | 2 => [2]
  | 3 => [2]
  | _ => []
def ac92 : AC := .seq (.region [⟨some 1, none, .box (.t 0)⟩, ⟨some 2, none, .alloc [.d true (.int .i64 0), .d true (.int .i64 0), .d true (.str ⟨#[]⟩), .nil]⟩] [1, 2]) (.seq (.seq (.region [⟨some 3, none, .ld (some 4) (.t 1)⟩, ⟨some 4, none, .call (.c (.fn 81 [])) [.t 3]⟩, ⟨some 5, none, .not (.t 4)⟩] [1, 2, 5]) (.cond (.t 5) (.seq (.region [⟨some 6, none, .bld [.d true (.int .i64 0), .d true (.int .i64 0), .d true (.str ⟨#[]⟩), .nil] []⟩, ⟨none, none, .st 4 (.t 2) (.t 6)⟩] [2]) (.ret)) (.skip))) (.seq (.region [⟨some 7, none, .ld (some 4) (.t 1)⟩, ⟨some 8, none, .call (.c (.fn 87 [])) [.t 7]⟩, ⟨none, none, .st 4 (.t 2) (.t 8)⟩] [2]) (.ret)))
theorem ok92 : FnOk Tryd.prog Tryd.f92 9 keep92 ac92 [.c 2 (some 4)] := by
  refine ⟨?_, ?_, ?_, ?_, ?_⟩ <;> kernel_rfl

/-! impl.Pair -/
def keep93 : Nat → List Nat
  | 0 => [2, 3, 4]
  | 1 => [4]
  | _ => []
def ac93 : AC := .seq (.region [⟨some 2, none, .box (.t 0)⟩, ⟨some 3, none, .box (.t 1)⟩, ⟨some 4, none, .alloc [.d true (.int .i64 0), .d true (.int .i64 0), .d true (.str ⟨#[]⟩), .nil]⟩] [2, 3, 4]) (.seq (.region [⟨some 5, none, .ld (some 4) (.t 2)⟩, ⟨some 6, none, .ld (some 4) (.t 3)⟩, ⟨some 7, none, .bs 40 4 [.t 5, .t 6]⟩, ⟨some 8, none, .bld [.d true (.int .i64 0), .d true (.int .i64 0), .d true (.str ⟨#[]⟩), .nil] [(0, 1, .c (.d true (.int .i64 3))), (3, 1, .t 7)]⟩, ⟨some 9, none, .call (.c (.fn 92 [])) [.t 8]⟩, ⟨none, none, .st 4 (.t 4) (.t 9)⟩] [4]) (.ret))
theorem ok93 : FnOk Tryd.prog Tryd.f93 10 keep93 ac93 [.c 4 (some 4)] := by
  refine ⟨?_, ?_, ?_, ?_, ?_⟩ <;> kernel_rfl

/-! spec.Hash -/
def keep94 : Nat → List Nat
  | 0 => [1, 2]
  | 1 => [2]
  | _ => []
def ac94 : AC := .seq (.region [⟨some 1, none, .box (.t 0)⟩, ⟨some 2, none, .alloc [.d true (.int .i64 0), .d true (.int .i64 0), .d true (.str ⟨#[]⟩), .nil]⟩] [1, 2]) (.seq (.region [⟨some 3, none, .ld (some 4) (.t 1)⟩, ⟨some 4, none, .call (.c (.fn 84 [])) [.t 3]⟩, ⟨some 5, none, .bs 40 4 [.t 4]⟩, ⟨some 6, none, .bld [.d true (.int .i64 0), .d true (.int .i64 0), .d true (.str ⟨#[]⟩), .nil] [(0, 1, .c (.d true (.int .i64 6))), (3, 1, .t 5)]⟩, ⟨some 7, none, .call (.c (.fn 124 [])) [.t 6]⟩, ⟨none, none, .st 4 (.t 2) (.t 7)⟩] [2]) (.ret))
theorem ok94 : FnOk Tryd.prog Tryd.f94 8 keep94 ac94 [.c 2 (some 4)] := by
  refine ⟨?_, ?_, ?_, ?_, ?_⟩ <;> kernel_rfl

/-! impl.Hash -/
def keep95 : Nat → List Nat
  | 0 => [1, 2]
  | 1 => [2]
  | _ => []
def ac95 : AC := .seq (.region [⟨some 1, none, .box (.t 0)⟩, ⟨some 2, none, .alloc [.d true (.int .i64 0), .d true (.int .i64 0), .d true (.str ⟨#[]⟩), .nil]⟩] [1, 2]) (.seq (.region [⟨some 3, none, .ld (some 4) (.t 1)⟩, ⟨some 4, none, .bs 40 4 [.t 3]⟩, ⟨some 5, none, .bld [.d true (.int .i64 0), .d true (.int .i64 0), .d true (.str ⟨#[]⟩), .nil] [(0, 1, .c (.d true (.int .i64 6))), (3, 1, .t 4)]⟩, ⟨some 6, none, .call (.c (.fn 92 [])) [.t 5]⟩, ⟨none, none, .st 4 (.t 2) (.t 6)⟩] [2]) (.ret))
theorem ok95 : FnOk Tryd.prog Tryd.f95 7 keep95 ac95 [.c 2 (some 4)] := by
  refine ⟨?_, ?_, ?_, ?_, ?_⟩ <;> kernel_rfl

/-! spec.l8Text -/
def keep96 : Nat → List Nat
  | 0 => [0, 2]
  | 1 => [2]
  | _ => []
def ac96 : AC := .seq (.region [⟨some 2, none, .alloc [.d true (.int .i64 0), .d true (.int .i64 0), .d true (.str ⟨#[]⟩), .nil]⟩] [0, 2]) (.seq (.region [⟨some 3, none, .mv (.t 0)⟩, ⟨some 4, none, .bld [.d true (.int .i64 0), .d true (.int .i64 0), .d true (.str ⟨#[]⟩), .nil] [(0, 1, .c (.d true (.int .i64 2))), (2, 1, .t 3)]⟩, ⟨none, none, .st 4 (.t 2) (.t 4)⟩] [2]) (.ret))
theorem ok96 : FnOk Tryd.prog Tryd.f96 5 keep96 ac96 [.c 2 (some 4)] := by
  refine ⟨?_, ?_, ?_, ?_, ?_⟩ <;> kernel_rfl

/-! impl.text -/
def keep97 : Nat → List Nat
  | 0 => [0, 2]
  | 1 => [2]
  | _ => []
def ac97 : AC := .seq (.region [⟨some 2, none, .alloc [.d true (.int .i64 0), .d true (.int .i64 0), .d true (.str ⟨#[]⟩), .nil]⟩] [0, 2]) (.seq (.region [⟨some 3, none, .mv (.t 0)⟩, ⟨some 4, none, .bld [.d true (.int .i64 0), .d true (.int .i64 0), .d true (.str ⟨#[]⟩), .nil] [(0, 1, .c (.d true (.int .i64 2))), (2, 1, .t 3)]⟩, ⟨none, none, .st 4 (.t 2) (.t 4)⟩] [2]) (.ret))
theorem ok97 : FnOk Tryd.prog Tryd.f97 5 keep97 ac97 [.c 2 (some 4)] := by
  refine ⟨?_, ?_, ?_, ?_, ?_⟩ <;> kernel_rfl

/-! spec.Agree -/
def keep98 : Nat → List Nat
  | 0 => [2, 3, 4]
  | 1 => [2, 3, 4, 22]
  | 2 => [4, 5]
  | 3 => [4, 6, 7]
  | 4 => [4, 6, 7, 31]
  | 5 => [4, 6, 7]
  | 6 => [4, 8]
  | 7 => [4, 5]
  | 1000003 => [1]
  | 1000007 => [1]
  | _ => []
def ac98 : AC := .seq (.region [⟨some 2, none, .box (.t 0)⟩, ⟨some 3, none, .box (.t 1)⟩, ⟨some 4, none, .alloc [.d true (.int .i64 0), .d true (.int .i64 0), .d true (.str ⟨#[]⟩), .nil]⟩, ⟨some 5, none, .mv (.c (.d true (.bool false)))⟩] [2, 3, 4]) (.seq (.seq (.region [⟨some 9, none, .fa 0 (.t 3)⟩, ⟨some 10, none, .ld none (.t 9)⟩, ⟨some 11, none, .bin .neq (.t 10) (.c (.d true (.int .i64 4)))⟩, ⟨some 12, none, .mv (.t 11)⟩, ⟨some 13, some (12, false), .fa 3 (.t 3)⟩, ⟨some 14, some (12, false), .ld none (.t 13)⟩, ⟨some 15, some (12, false), .len (.t 14)⟩, ⟨some 16, some (12, false), .bin .neq (.t 15) (.c (.d true (.int .i64 1)))⟩, ⟨some 17, none, .pick (.t 12) (.c (.d true (.bool true))) (.t 16)⟩, ⟨some 18, none, .mv (.t 17)⟩, ⟨some 19, some (18, false), .ld (some 4) (.t 3)⟩, ⟨some 20, some (18, false), .call (.c (.fn 80 [])) [.t 19]⟩, ⟨some 21, some (18, false), .not (.t 20)⟩, ⟨some 22, none, .pick (.t 18) (.c (.d true (.bool true))) (.t 21)⟩] [2, 3, 4, 22]) (.cond (.t 22) (.seq (.region [⟨some 23, none, .bld [.d true (.int .i64 0), .d true (.int .i64 0), .d true (.str ⟨#[]⟩), .nil] []⟩, ⟨none, none, .st 4 (.t 4) (.t 23)⟩, ⟨some 5, none, .mv (.c (.d true (.bool false)))⟩] [4, 5]) (.ret)) (.skip))) (.seq (.tree (.take ⟨some 24, none, .ld (some 4) (.t 2)⟩ (.take ⟨some 25, none, .fa 3 (.t 3)⟩ (.take ⟨some 26, none, .ld none (.t 25)⟩ (.take ⟨some 27, none, .ia 4 (.t 26) (.c (.d true (.int .i64 0)))⟩ (.take ⟨some 28, none, .ld (some 4) (.t 27)⟩ (.br (.cons ⟨some 6, none, .alloc [.d true (.int .i64 0), .d true (.int .i64 0), .d true (.str ⟨#[]⟩), .nil]⟩ (.br (.cons ⟨some 7, none, .alloc [.d true (.int .i64 0), .d true (.int .i64 0), .d true (.str ⟨#[]⟩), .nil]⟩ (.br (.cons ⟨none, none, .st 4 (.t 6) (.t 24)⟩ (.br (.cons ⟨none, none, .st 4 (.t 7) (.t 28)⟩ (.done) (.nil))) (.nil))) (.nil))) (.cons ⟨some 7, none, .alloc [.d true (.int .i64 0), .d true (.int .i64 0), .d true (.str ⟨#[]⟩), .nil]⟩ (.br (.cons ⟨some 6, none, .alloc [.d true (.int .i64 0), .d true (.int .i64 0), .d true (.str ⟨#[]⟩), .nil]⟩ (.br (.cons ⟨none, none, .st 4 (.t 6) (.t 24)⟩ (.br (.cons ⟨none, none, .st 4 (.t 7) (.t 28)⟩ (.done) (.nil))) (.nil))) (.nil))) (.nil))))))))) [4, 6, 7]) (.seq (.seq (.region [⟨some 29, none, .ld (some 4) (.t 7)⟩, ⟨some 30, none, .ld (some 4) (.t 6)⟩, ⟨some 31, none, .call (.c (.fn 125 [])) [.t 29, .t 30]⟩] [4, 6, 7, 31]) (.cond (.t 31) (.region [⟨some 32, none, .ld (some 4) (.t 7)⟩, ⟨some 33, none, .ld (some 4) (.t 6)⟩, ⟨none, none, .st 4 (.t 6) (.t 32)⟩, ⟨none, none, .st 4 (.t 7) (.t 33)⟩] [4, 6, 7]) (.skip))) (.seq (.region [⟨some 34, none, .ld (some 4) (.t 6)⟩, ⟨some 35, none, .ld (some 4) (.t 7)⟩, ⟨some 36, none, .call (.c (.fn 90 [])) [.c (.d true (.int .i64 5)), .t 34, .t 35]⟩, ⟨some 8, none, .alloc [.d true (.int .i64 0), .d true (.int .i64 0), .d true (.str ⟨#[]⟩), .nil]⟩, ⟨none, none, .st 4 (.t 8) (.t 36)⟩] [4, 8]) (.seq (.tree (.take ⟨some 37, none, .ld (some 4) (.t 8)⟩ (.take ⟨some 38, none, .fa 0 (.t 8)⟩ (.take ⟨some 39, none, .ld none (.t 38)⟩ (.take ⟨some 40, none, .bin .eql (.t 39) (.c (.d true (.int .i64 5)))⟩ (.br (.cons ⟨none, none, .st 4 (.t 4) (.t 37)⟩ (.take ⟨some 5, none, .mv (.t 40)⟩ (.done)) (.nil))))))) [4, 5]) (.ret))))))
theorem ok98 : FnOk Tryd.prog Tryd.f98 41 keep98 ac98 [.c 4 (some 4), .t 5] := by
  refine ⟨?_, ?_, ?_, ?_, ?_⟩ <;> kernel_rfl

/-! spec.Pub -/
def keep99 : Nat → List Nat
  | 0 => [1, 2]
  | 1 => [2]
  | _ => []
def ac99 : AC := .seq (.region [⟨some 1, none, .box (.t 0)⟩, ⟨some 2, none, .alloc [.d true (.int .i64 0), .d true (.int .i64 0), .d true (.str ⟨#[]⟩), .nil]⟩] [1, 2]) (.seq (.region [⟨some 3, none, .ld (some 4) (.t 1)⟩, ⟨some 4, none, .call (.c (.fn 84 [])) [.t 3]⟩, ⟨some 5, none, .bs 40 4 [.t 4]⟩, ⟨some 6, none, .bld [.d true (.int .i64 0), .d true (.int .i64 0), .d true (.str ⟨#[]⟩), .nil] [(0, 1, .c (.d true (.int .i64 4))), (3, 1, .t 5)]⟩, ⟨some 7, none, .call (.c (.fn 124 [])) [.t 6]⟩, ⟨none, none, .st 4 (.t 2) (.t 7)⟩] [2]) (.ret))
theorem ok99 : FnOk Tryd.prog Tryd.f99 8 keep99 ac99 [.c 2 (some 4)] := by
  refine ⟨?_, ?_, ?_, ?_, ?_⟩ <;> kernel_rfl

/-! spec.Sign -/
def keep100 : Nat → List Nat
  | 0 => [2, 3, 4]
  | 1 => [4]
  | _ => []
def ac100 : AC := .seq (.region [⟨some 2, none, .box (.t 0)⟩, ⟨some 3, none, .box (.t 1)⟩, ⟨some 4, none, .alloc [.d true (.int .i64 0), .d true (.int .i64 0), .d true (.str ⟨#[]⟩), .nil]⟩] [2, 3, 4]) (.seq (.region [⟨some 5, none, .ld (some 4) (.t 2)⟩, ⟨some 6, none, .ld (some 4) (.t 3)⟩, ⟨some 7, none, .call (.c (.fn 90 [])) [.c (.d true (.int .i64 8)), .t 5, .t 6]⟩, ⟨none, none, .st 4 (.t 4) (.t 7)⟩] [4]) (.ret))
theorem ok100 : FnOk Tryd.prog Tryd.f100 8 keep100 ac100 [.c 4 (some 4)] := by
  refine ⟨?_, ?_, ?_, ?_, ?_⟩ <;> kernel_rfl

/-! spec.Both -/
def keep101 : Nat → List Nat
  | 0 => [2, 3, 4]
  | 1 => [4]
  | _ => []
def ac101 : AC := .seq (.region [⟨some 2, none, .box (.t 0)⟩, ⟨some 3, none, .box (.t 1)⟩, ⟨some 4, none, .alloc [.d true (.int .i64 0), .d true (.int .i64 0), .d true (.str ⟨#[]⟩), .nil]⟩] [2, 3, 4]) (.seq (.region [⟨some 5, none, .ld (some 4) (.t 2)⟩, ⟨some 6, none, .ld (some 4) (.t 3)⟩, ⟨some 7, none, .call (.c (.fn 91 [])) [.t 5, .t 6]⟩, ⟨some 8, none, .call (.c (.fn 94 [])) [.t 7]⟩, ⟨none, none, .st 4 (.t 4) (.t 8)⟩] [4]) (.ret))
theorem ok101 : FnOk Tryd.prog Tryd.f101 9 keep101 ac101 [.c 4 (some 4)] := by
  refine ⟨?_, ?_, ?_, ?_, ?_⟩ <;> kernel_rfl

/-! impl.Agree -/
def keep102 : Nat → List Nat
  | 0 => [2, 3, 4]
  | 1 => [2, 3, 4, 16]
  | 2 => [4, 5]
  | 3 => [4, 6, 7]
  | 4 => [4, 6, 7, 25]
  | 5 => [4, 6, 7]
  | 6 => [4, 8]
  | 7 => [4, 5]
  | 1000003 => [1]
  | 1000007 => [1]
  | _ => []
def ac102 : AC := .seq (.region [⟨some 2, none, .box (.t 0)⟩, ⟨some 3, none, .box (.t 1)⟩, ⟨some 4, none, .alloc [.d true (.int .i64 0), .d true (.int .i64 0), .d true (.str ⟨#[]⟩), .nil]⟩, ⟨some 5, none, .mv (.c (.d true (.bool false)))⟩] [2, 3, 4]) (.seq (.seq (.region [⟨some 9, none, .fa 0 (.t 3)⟩, ⟨some 10, none, .ld none (.t 9)⟩, ⟨some 11, none, .bin .neq (.t 10) (.c (.d true (.int .i64 4)))⟩, ⟨some 12, none, .mv (.t 11)⟩, ⟨some 13, some (12, false), .ld (some 4) (.t 3)⟩, ⟨some 14, some (12, false), .call (.c (.fn 81 [])) [.t 13]⟩, ⟨some 15, some (12, false), .not (.t 14)⟩, ⟨some 16, none, .pick (.t 12) (.c (.d true (.bool true))) (.t 15)⟩] [2, 3, 4, 16]) (.cond (.t 16) (.seq (.region [⟨some 17, none, .bld [.d true (.int .i64 0), .d true (.int .i64 0), .d true (.str ⟨#[]⟩), .nil] []⟩, ⟨none, none, .st 4 (.t 4) (.t 17)⟩, ⟨some 5, none, .mv (.c (.d true (.bool false)))⟩] [4, 5]) (.ret)) (.skip))) (.seq (.tree (.take ⟨some 18, none, .ld (some 4) (.t 2)⟩ (.take ⟨some 19, none, .fa 3 (.t 3)⟩ (.take ⟨some 20, none, .ld none (.t 19)⟩ (.take ⟨some 21, none, .ia 4 (.t 20) (.c (.d true (.int .i64 0)))⟩ (.take ⟨some 22, none, .ld (some 4) (.t 21)⟩ (.br (.cons ⟨some 6, none, .alloc [.d true (.int .i64 0), .d true (.int .i64 0), .d true (.str ⟨#[]⟩), .nil]⟩ (.br (.cons ⟨some 7, none, .alloc [.d true (.int .i64 0), .d true (.int .i64 0), .d true (.str ⟨#[]⟩), .nil]⟩ (.br (.cons ⟨none, none, .st 4 (.t 6) (.t 18)⟩ (.br (.cons ⟨none, none, .st 4 (.t 7) (.t 22)⟩ (.done) (.nil))) (.nil))) (.nil))) (.cons ⟨some 7, none, .alloc [.d true (.int .i64 0), .d true (.int .i64 0), .d true (.str ⟨#[]⟩), .nil]⟩ (.br (.cons ⟨some 6, none, .alloc [.d true (.int .i64 0), .d true (.int .i64 0), .d true (.str ⟨#[]⟩), .nil]⟩ (.br (.cons ⟨none, none, .st 4 (.t 6) (.t 18)⟩ (.br (.cons ⟨none, none, .st 4 (.t 7) (.t 22)⟩ (.done) (.nil))) (.nil))) (.nil))) (.nil))))))))) [4, 6, 7]) (.seq (.seq (.region [⟨some 23, none, .ld (some 4) (.t 7)⟩, ⟨some 24, none, .ld (some 4) (.t 6)⟩, ⟨some 25, none, .call (.c (.fn 126 [])) [.t 23, .t 24]⟩] [4, 6, 7, 25]) (.cond (.t 25) (.region [⟨some 26, none, .ld (some 4) (.t 7)⟩, ⟨some 27, none, .ld (some 4) (.t 6)⟩, ⟨none, none, .st 4 (.t 6) (.t 26)⟩, ⟨none, none, .st 4 (.t 7) (.t 27)⟩] [4, 6, 7]) (.skip))) (.seq (.region [⟨some 28, none, .ld (some 4) (.t 6)⟩, ⟨some 29, none, .ld (some 4) (.t 7)⟩, ⟨some 30, none, .bs 40 4 [.t 28, .t 29]⟩, ⟨some 31, none, .bld [.d true (.int .i64 0), .d true (.int .i64 0), .d true (.str ⟨#[]⟩), .nil] [(0, 1, .c (.d true (.int .i64 5))), (3, 1, .t 30)]⟩, ⟨some 32, none, .call (.c (.fn 92 [])) [.t 31]⟩, ⟨some 8, none, .alloc [.d true (.int .i64 0), .d true (.int .i64 0), .d true (.str ⟨#[]⟩), .nil]⟩, ⟨none, none, .st 4 (.t 8) (.t 32)⟩] [4, 8]) (.seq (.tree (.take ⟨some 33, none, .ld (some 4) (.t 8)⟩ (.take ⟨some 34, none, .fa 0 (.t 8)⟩ (.take ⟨some 35, none, .ld none (.t 34)⟩ (.take ⟨some 36, none, .bin .eql (.t 35) (.c (.d true (.int .i64 5)))⟩ (.br (.cons ⟨none, none, .st 4 (.t 4) (.t 33)⟩ (.take ⟨some 5, none, .mv (.t 36)⟩ (.done)) (.nil))))))) [4, 5]) (.ret))))))
theorem ok102 : FnOk Tryd.prog Tryd.f102 37 keep102 ac102 [.c 4 (some 4), .t 5] := by
  refine ⟨?_, ?_, ?_, ?_, ?_⟩ <;> kernel_rfl

/-! impl.Pub -/
def keep103 : Nat → List Nat
  | 0 => [1, 2]
  | 1 => [2]
  | _ => []
def ac103 : AC := .seq (.region [⟨some 1, none, .box (.t 0)⟩, ⟨some 2, none, .alloc [.d true (.int .i64 0), .d true (.int .i64 0), .d true (.str ⟨#[]⟩), .nil]⟩] [1, 2]) (.seq (.region [⟨some 3, none, .ld (some 4) (.t 1)⟩, ⟨some 4, none, .bs 40 4 [.t 3]⟩, ⟨some 5, none, .bld [.d true (.int .i64 0), .d true (.int .i64 0), .d true (.str ⟨#[]⟩), .nil] [(0, 1, .c (.d true (.int .i64 4))), (3, 1, .t 4)]⟩, ⟨some 6, none, .call (.c (.fn 92 [])) [.t 5]⟩, ⟨none, none, .st 4 (.t 2) (.t 6)⟩] [2]) (.ret))
theorem ok103 : FnOk Tryd.prog Tryd.f103 7 keep103 ac103 [.c 2 (some 4)] := by
  refine ⟨?_, ?_, ?_, ?_, ?_⟩ <;> kernel_rfl

/-! impl.Sign -/
def keep104 : Nat → List Nat
  | 0 => [2, 3, 4]
  | 1 => [4]
  | _ => []
def ac104 : AC := .seq (.region [⟨some 2, none, .box (.t 0)⟩, ⟨some 3, none, .box (.t 1)⟩, ⟨some 4, none, .alloc [.d true (.int .i64 0), .d true (.int .i64 0), .d true (.str ⟨#[]⟩), .nil]⟩] [2, 3, 4]) (.seq (.region [⟨some 5, none, .ld (some 4) (.t 2)⟩, ⟨some 6, none, .ld (some 4) (.t 3)⟩, ⟨some 7, none, .bs 40 4 [.t 5, .t 6]⟩, ⟨some 8, none, .bld [.d true (.int .i64 0), .d true (.int .i64 0), .d true (.str ⟨#[]⟩), .nil] [(0, 1, .c (.d true (.int .i64 8))), (3, 1, .t 7)]⟩, ⟨some 9, none, .call (.c (.fn 92 [])) [.t 8]⟩, ⟨none, none, .st 4 (.t 4) (.t 9)⟩] [4]) (.ret))
theorem ok104 : FnOk Tryd.prog Tryd.f104 10 keep104 ac104 [.c 4 (some 4)] := by
  refine ⟨?_, ?_, ?_, ?_, ?_⟩ <;> kernel_rfl

/-! impl.Both -/
def keep105 : Nat → List Nat
  | 0 => [2, 3, 4]
  | 1 => [4]
  | _ => []
def ac105 : AC := .seq (.region [⟨some 2, none, .box (.t 0)⟩, ⟨some 3, none, .box (.t 1)⟩, ⟨some 4, none, .alloc [.d true (.int .i64 0), .d true (.int .i64 0), .d true (.str ⟨#[]⟩), .nil]⟩] [2, 3, 4]) (.seq (.region [⟨some 5, none, .ld (some 4) (.t 2)⟩, ⟨some 6, none, .ld (some 4) (.t 3)⟩, ⟨some 7, none, .call (.c (.fn 93 [])) [.t 5, .t 6]⟩, ⟨some 8, none, .call (.c (.fn 95 [])) [.t 7]⟩, ⟨none, none, .st 4 (.t 4) (.t 8)⟩] [4]) (.ret))
theorem ok105 : FnOk Tryd.prog Tryd.f105 9 keep105 ac105 [.c 4 (some 4)] := by
  refine ⟨?_, ?_, ?_, ?_, ?_⟩ <;> kernel_rfl

/-! spec.l5Label -/
def keep106 : Nat → List Nat
  | 0 => [0]
  | 1 => [0, 3]
  | 2 => [0, 3, 8]
  | 3 => [0, 3]
  | 4 => [0, 3, 4]
  | 5 => [0, 3, 43]
  | 6 => [2]
  | 7 => [2]
  | _ => []
def ac106 : AC := .seq (.region [⟨some 2, none, .mv (.c (.d true (.bool false)))⟩] [0]) (.seq (.seq (.region [⟨some 3, none, .mv (.c (.d true (.int .i64 0)))⟩] [0, 3]) (.block 0 (.loop (.seq (.seq (.region [⟨some 5, none, .mv (.t 3)⟩, ⟨some 6, none, .mv (.t 0)⟩, ⟨some 7, none, .slen (.t 6)⟩, ⟨some 8, none, .bin .lss (.t 5) (.t 7)⟩] [0, 3, 8]) (.cond (.t 8) (.skip) (.exit 0))) (.seq (.block 1 (.seq (.region [⟨some 11, none, .mv (.t 0)⟩, ⟨some 12, none, .mv (.t 3)⟩, ⟨some 13, none, .ix (.t 11) (.t 12)⟩, ⟨some 4, none, .mv (.t 13)⟩] [0, 3, 4]) (.seq (.region [⟨some 14, none, .mv (.t 4)⟩, ⟨some 15, none, .bin .geq (.t 14) (.c (.d true (.int .u8 97)))⟩, ⟨some 16, none, .mv (.t 15)⟩, ⟨some 17, some (16, true), .mv (.t 4)⟩, ⟨some 18, some (16, true), .bin .leq (.t 17) (.c (.d true (.int .u8 122)))⟩, ⟨some 19, none, .pick (.t 16) (.t 18) (.c (.d true (.bool false)))⟩, ⟨some 20, none, .mv (.t 19)⟩, ⟨some 21, some (20, false), .mv (.t 4)⟩, ⟨some 22, some (20, false), .bin .geq (.t 21) (.c (.d true (.int .u8 48)))⟩, ⟨some 23, some (20, false), .mv (.t 22)⟩, ⟨some 24, some (23, true), .mv (.t 4)⟩, ⟨some 25, some (23, true), .bin .leq (.t 24) (.c (.d true (.int .u8 57)))⟩, ⟨some 26, some (20, false), .pick (.t 23) (.t 25) (.c (.d true (.bool false)))⟩, ⟨some 27, none, .pick (.t 20) (.c (.d true (.bool true))) (.t 26)⟩, ⟨some 28, none, .mv (.t 27)⟩, ⟨some 29, some (28, false), .mv (.t 4)⟩, ⟨some 30, some (28, false), .bin .eql (.t 29) (.c (.d true (.int .u8 45)))⟩, ⟨some 31, some (28, false), .mv (.t 30)⟩, ⟨some 32, some (31, true), .mv (.t 3)⟩, ⟨some 33, some (31, true), .bin .gtr (.t 32) (.c (.d true (.int .i64 0)))⟩, ⟨some 34, some (28, false), .pick (.t 31) (.t 33) (.c (.d true (.bool false)))⟩, ⟨some 35, some (28, false), .mv (.t 34)⟩, ⟨some 36, some (35, true), .mv (.t 3)⟩, ⟨some 37, some (35, true), .mv (.t 0)⟩, ⟨some 38, some (35, true), .slen (.t 37)⟩, ⟨some 39, some (35, true), .bin .sub (.t 38) (.c (.d true (.int .i64 1)))⟩, ⟨some 40, some (35, true), .bin .lss (.t 36) (.t 39)⟩, ⟨some 41, some (28, false), .pick (.t 35) (.t 40) (.c (.d true (.bool false)))⟩, ⟨some 42, none, .pick (.t 28) (.c (.d true (.bool true))) (.t 41)⟩, ⟨some 43, none, .not (.t 42)⟩] [0, 3, 43]) (.cond (.t 43) (.seq (.region [⟨some 2, none, .mv (.c (.d true (.bool false)))⟩] [2]) (.ret)) (.skip))))) (.region [⟨some 9, none, .mv (.t 3)⟩, ⟨some 10, none, .bin .add (.t 9) (.c (.d true (.int .i64 1)))⟩, ⟨some 3, none, .mv (.t 10)⟩] [0, 3])))))) (.seq (.region [⟨some 44, none, .mv (.t 0)⟩, ⟨some 45, none, .slen (.t 44)⟩, ⟨some 46, none, .call (.c (.fn 63 [])) [.t 45, .c (.d true (.int .i64 1)), .c (.d true (.int .i64 10))]⟩, ⟨some 2, none, .mv (.t 46)⟩] [2]) (.ret)))
theorem ok106 : FnOk Tryd.prog Tryd.f106 47 keep106 ac106 [.t 2] := by
  refine ⟨?_, ?_, ?_, ?_, ?_⟩ <;> kernel_rfl

/-! impl.Labels -/
def keep108 : Nat → List Nat
  | 0 => [0]
  | 1 => [2]
  | _ => []
def ac108 : AC := .seq (.region [⟨some 2, none, .own 9 1⟩] [0]) (.seq (.region [⟨some 3, none, .mv (.t 0)⟩, ⟨some 4, none, .call (.c (.fn 128 [])) [.t 3, .c (.d true (.str ⟨#[46]⟩))]⟩, ⟨some 2, none, .mv (.t 4)⟩] [2]) (.ret))
theorem ok108 : FnOk Tryd.prog Tryd.f108 5 keep108 ac108 [.t 2] := by
  refine ⟨?_, ?_, ?_, ?_, ?_⟩ <;> kernel_rfl

/-! impl.labelsOk$1 -/
def keep109 : Nat → List Nat
  | 0 => [0]
  | 1 => [2]
  | _ => []
def ac109 : AC := .seq (.region [⟨some 2, none, .mv (.c (.d true (.bool false)))⟩] [0]) (.seq (.region [⟨some 3, none, .mv (.t 0)⟩, ⟨some 4, none, .call (.c (.fn 110 [])) [.t 3]⟩, ⟨some 5, none, .not (.t 4)⟩, ⟨some 2, none, .mv (.t 5)⟩] [2]) (.ret))
theorem ok109 : FnOk Tryd.prog Tryd.f109 6 keep109 ac109 [.t 2] := by
  refine ⟨?_, ?_, ?_, ?_, ?_⟩ <;> kernel_rfl

/-! impl.labelOk -/
def keep110 : Nat → List Nat
  | 0 => [0]
  | 1 => [0, 6, 7]
  | 2 => [0, 6, 7, 8]
  | 3 => [0, 3, 6, 7]
  | 4 => [0, 3, 4, 6, 7]
  | 5 => [0, 6, 7, 41]
  | 6 => [2]
  | 7 => [0, 6, 7]
  | 8 => [2]
  | _ => []
def ac110 : AC := .seq (.region [⟨some 2, none, .mv (.c (.d true (.bool false)))⟩] [0]) (.seq (.seq (.region [⟨some 5, none, .mv (.t 0)⟩, ⟨some 6, none, .slen (.t 5)⟩, ⟨some 7, none, .mv (.c (.d true (.int .i64 0)))⟩] [0, 6, 7]) (.block 0 (.loop (.seq (.region [⟨some 8, none, .bin .lss (.t 7) (.t 6)⟩] [0, 6, 7, 8]) (.seq (.cond (.t 8) (.skip) (.exit 0)) (.seq (.block 1 (.seq (.region [⟨some 9, none, .mv (.t 7)⟩, ⟨some 3, none, .mv (.t 9)⟩] [0, 3, 6, 7]) (.seq (.region [⟨some 10, none, .mv (.t 0)⟩, ⟨some 11, none, .mv (.t 3)⟩, ⟨some 12, none, .ix (.t 10) (.t 11)⟩, ⟨some 4, none, .mv (.t 12)⟩] [0, 3, 4, 6, 7]) (.seq (.region [⟨some 13, none, .mv (.t 4)⟩, ⟨some 14, none, .bin .lss (.t 13) (.c (.d true (.int .u8 97)))⟩, ⟨some 15, none, .mv (.t 14)⟩, ⟨some 16, some (15, false), .mv (.t 4)⟩, ⟨some 17, some (15, false), .bin .gtr (.t 16) (.c (.d true (.int .u8 122)))⟩, ⟨some 18, none, .pick (.t 15) (.c (.d true (.bool true))) (.t 17)⟩, ⟨some 19, none, .mv (.t 18)⟩, ⟨some 20, some (19, true), .mv (.t 4)⟩, ⟨some 21, some (19, true), .bin .lss (.t 20) (.c (.d true (.int .u8 48)))⟩, ⟨some 22, some (19, true), .mv (.t 21)⟩, ⟨some 23, some (22, false), .mv (.t 4)⟩, ⟨some 24, some (22, false), .bin .gtr (.t 23) (.c (.d true (.int .u8 57)))⟩, ⟨some 25, some (19, true), .pick (.t 22) (.c (.d true (.bool true))) (.t 24)⟩, ⟨some 26, none, .pick (.t 19) (.t 25) (.c (.d true (.bool false)))⟩, ⟨some 27, none, .mv (.t 26)⟩, ⟨some 28, some (27, true), .mv (.t 4)⟩, ⟨some 29, some (27, true), .bin .neq (.t 28) (.c (.d true (.int .u8 45)))⟩, ⟨some 30, some (27, true), .mv (.t 29)⟩, ⟨some 31, some (30, false), .mv (.t 3)⟩, ⟨some 32, some (30, false), .bin .eql (.t 31) (.c (.d true (.int .i64 0)))⟩, ⟨some 33, some (27, true), .pick (.t 30) (.c (.d true (.bool true))) (.t 32)⟩, ⟨some 34, some (27, true), .mv (.t 33)⟩, ⟨some 35, some (34, false), .mv (.t 3)⟩, ⟨some 36, some (34, false), .mv (.t 0)⟩, ⟨some 37, some (34, false), .slen (.t 36)⟩, ⟨some 38, some (34, false), .bin .sub (.t 37) (.c (.d true (.int .i64 1)))⟩, ⟨some 39, some (34, false), .bin .eql (.t 35) (.t 38)⟩, ⟨some 40, some (27, true), .pick (.t 34) (.c (.d true (.bool true))) (.t 39)⟩, ⟨some 41, none, .pick (.t 27) (.t 40) (.c (.d true (.bool false)))⟩] [0, 6, 7, 41]) (.cond (.t 41) (.seq (.region [⟨some 2, none, .mv (.c (.d true (.bool false)))⟩] [2]) (.ret)) (.skip)))))) (.region [⟨some 42, none, .bin .add (.t 7) (.c (.d true (.int .i64 1)))⟩, ⟨some 7, none, .mv (.t 42)⟩] [0, 6, 7]))))))) (.seq (.region [⟨some 43, none, .mv (.t 0)⟩, ⟨some 44, none, .slen (.t 43)⟩, ⟨some 45, none, .call (.c (.fn 66 [])) [.t 44, .c (.d true (.int .i64 1)), .c (.d true (.int .i64 10))]⟩, ⟨some 2, none, .mv (.t 45)⟩] [2]) (.ret)))
theorem ok110 : FnOk Tryd.prog Tryd.f110 46 keep110 ac110 [.t 2] := by
  refine ⟨?_, ?_, ?_, ?_, ?_⟩ <;> kernel_rfl

/-! slices.IndexFunc[[]string,string] -/
def keep112 : Nat → List Nat
  | 0 => [0, 1]
  | 1 => [0, 1, 7, 8]
  | 2 => [0, 1, 7, 8, 9]
  | 3 => [0, 1, 5, 7, 8]
  | 4 => [0, 1, 5, 7, 8, 16]
  | 5 => [4]
  | 6 => [0, 1, 7, 8]
  | 7 => [4]
  | _ => []
def ac112 : AC := .seq (.region [⟨some 4, none, .mv (.c (.d true (.int .i64 0)))⟩] [0, 1]) (.seq (.seq (.region [⟨some 6, none, .mv (.t 0)⟩, ⟨some 7, none, .len (.t 6)⟩, ⟨some 8, none, .mv (.c (.d true (.int .i64 0)))⟩] [0, 1, 7, 8]) (.block 0 (.loop (.seq (.region [⟨some 9, none, .bin .lss (.t 8) (.t 7)⟩] [0, 1, 7, 8, 9]) (.seq (.cond (.t 9) (.skip) (.exit 0)) (.seq (.block 1 (.seq (.region [⟨some 10, none, .mv (.t 8)⟩, ⟨some 5, none, .mv (.t 10)⟩] [0, 1, 5, 7, 8]) (.seq (.region [⟨some 11, none, .mv (.t 1)⟩, ⟨some 12, none, .mv (.t 0)⟩, ⟨some 13, none, .mv (.t 5)⟩, ⟨some 14, none, .ia 1 (.t 12) (.t 13)⟩, ⟨some 15, none, .ld none (.t 14)⟩, ⟨some 16, none, .call (.t 11) [.t 15]⟩] [0, 1, 5, 7, 8, 16]) (.cond (.t 16) (.seq (.region [⟨some 17, none, .mv (.t 5)⟩, ⟨some 4, none, .mv (.t 17)⟩] [4]) (.ret)) (.skip))))) (.region [⟨some 18, none, .bin .add (.t 8) (.c (.d true (.int .i64 1)))⟩, ⟨some 8, none, .mv (.t 18)⟩] [0, 1, 7, 8]))))))) (.seq (.region [⟨some 4, none, .mv (.c (.d true (.int .i64 (-1))))⟩] [4]) (.ret)))
theorem ok112 : FnOk Tryd.prog Tryd.f112 19 keep112 ac112 [.t 4] := by
  refine ⟨?_, ?_, ?_, ?_, ?_⟩ <;> kernel_rfl

/-! spec.TermSize -/
def keep117 : Nat → List Nat
  | 0 => [1]
  | 1 => [1, 3]
  | 2 => [1, 3, 4]
  | 3 => [1, 3, 4, 9]
  | 4 => [1, 3, 4]
  | 5 => [1, 3, 4]
  | 6 => [2]
  | _ => []
def ac117 : AC := .seq (.region [⟨some 1, none, .box (.t 0)⟩, ⟨some 2, none, .mv (.c (.d true (.int .i64 0)))⟩] [1]) (.seq (.region [⟨some 3, none, .mv (.c (.d true (.int .i64 1)))⟩] [1, 3]) (.seq (.seq (.region [⟨some 4, none, .mv (.c (.d true (.int .i64 0)))⟩] [1, 3, 4]) (.block 0 (.loop (.seq (.seq (.region [⟨some 5, none, .mv (.t 4)⟩, ⟨some 6, none, .fa 3 (.t 1)⟩, ⟨some 7, none, .ld none (.t 6)⟩, ⟨some 8, none, .len (.t 7)⟩, ⟨some 9, none, .bin .lss (.t 5) (.t 8)⟩] [1, 3, 4, 9]) (.cond (.t 9) (.skip) (.exit 0))) (.seq (.block 1 (.region [⟨some 12, none, .mv (.t 3)⟩, ⟨some 13, none, .fa 3 (.t 1)⟩, ⟨some 14, none, .ld none (.t 13)⟩, ⟨some 15, none, .mv (.t 4)⟩, ⟨some 16, none, .ia 4 (.t 14) (.t 15)⟩, ⟨some 17, none, .ld (some 4) (.t 16)⟩, ⟨some 18, none, .call (.c (.fn 117 [])) [.t 17]⟩, ⟨some 19, none, .bin .add (.t 12) (.t 18)⟩, ⟨some 3, none, .mv (.t 19)⟩] [1, 3, 4])) (.region [⟨some 10, none, .mv (.t 4)⟩, ⟨some 11, none, .bin .add (.t 10) (.c (.d true (.int .i64 1)))⟩, ⟨some 4, none, .mv (.t 11)⟩] [1, 3, 4])))))) (.seq (.region [⟨some 20, none, .mv (.t 3)⟩, ⟨some 2, none, .mv (.t 20)⟩] [2]) (.ret))))
theorem ok117 : FnOk Tryd.prog Tryd.f117 21 keep117 ac117 [.t 2] := by
  refine ⟨?_, ?_, ?_, ?_, ?_⟩ <;> kernel_rfl

/-! spec.l1Right -/
def keep118 : Nat → List Nat
  | 0 => [1]
  | 1 => [1, 42]
  | 2 => [2]
  | 3 => [1, 3]
  | 4 => [1, 3, 47]
  | 5 => [1, 3]
  | 6 => [1, 3, 56]
  | 7 => [2]
  | 8 => [2]
  | _ => []
def ac118 : AC := .seq (.region [⟨some 1, none, .box (.t 0)⟩, ⟨some 2, none, .mv (.c (.d true (.bool false)))⟩] [1]) (.seq (.seq (.draw [⟨some 4, none, .fa 0 (.t 1)⟩, ⟨some 5, none, .ld none (.t 4)⟩, ⟨some 6, none, .call (.c (.fn 133 [])) [.t 5]⟩, ⟨some 7, none, .fa 3 (.t 1)⟩, ⟨some 8, none, .ld none (.t 7)⟩, ⟨some 9, none, .len (.t 8)⟩, ⟨some 10, none, .bin .neq (.t 6) (.t 9)⟩, ⟨some 11, none, .mv (.t 10)⟩, ⟨some 12, some (11, false), .fa 0 (.t 1)⟩, ⟨some 13, some (11, false), .ld none (.t 12)⟩, ⟨some 14, some (11, false), .bin .neq (.t 13) (.c (.d true (.int .i64 1)))⟩, ⟨some 15, some (11, false), .mv (.t 14)⟩, ⟨some 16, some (15, true), .fa 1 (.t 1)⟩, ⟨some 17, some (15, true), .ld none (.t 16)⟩, ⟨some 18, some (15, true), .bin .neq (.t 17) (.c (.d true (.int .i64 0)))⟩, ⟨some 19, some (11, false), .pick (.t 15) (.t 18) (.c (.d true (.bool false)))⟩, ⟨some 20, none, .pick (.t 11) (.c (.d true (.bool true))) (.t 19)⟩, ⟨some 21, none, .mv (.t 20)⟩, ⟨some 22, some (21, false), .fa 0 (.t 1)⟩, ⟨some 23, some (21, false), .ld none (.t 22)⟩, ⟨some 24, some (21, false), .bin .neq (.t 23) (.c (.d true (.int .i64 2)))⟩, ⟨some 25, some (21, false), .mv (.t 24)⟩, ⟨some 26, some (25, true), .fa 2 (.t 1)⟩, ⟨some 27, some (25, true), .ld none (.t 26)⟩, ⟨some 28, some (25, true), .bin .neq (.t 27) (.c (.d true (.str ⟨#[]⟩)))⟩, ⟨some 29, some (21, false), .pick (.t 25) (.t 28) (.c (.d true (.bool false)))⟩, ⟨some 30, none, .pick (.t 21) (.c (.d true (.bool true))) (.t 29)⟩, ⟨some 31, none, .mv (.t 30)⟩, ⟨some 32, some (31, false), .fa 1 (.t 1)⟩, ⟨some 33, some (31, false), .ld none (.t 32)⟩, ⟨some 34, some (31, false), .call (.c (.fn 63 [])) [.t 33, .c (.d true (.int .i64 0)), .c (.d true (.int .i64 1000000))]⟩, ⟨some 35, some (31, false), .not (.t 34)⟩, ⟨some 36, none, .pick (.t 31) (.c (.d true (.bool true))) (.t 35)⟩, ⟨some 37, none, .mv (.t 36)⟩, ⟨some 38, some (37, false), .fa 2 (.t 1)⟩, ⟨some 39, some (37, false), .ld none (.t 38)⟩, ⟨some 40, some (37, false), .slen (.t 39)⟩, ⟨some 41, some (37, false), .bin .gtr (.t 40) (.c (.d true (.int .i64 300)))⟩, ⟨some 42, none, .pick (.t 37) (.c (.d true (.bool true))) (.t 41)⟩] [1, 42]) (.cond (.t 42) (.seq (.region [⟨some 2, none, .mv (.c (.d true (.bool false)))⟩] [2]) (.ret)) (.skip))) (.seq (.seq (.region [⟨some 3, none, .mv (.c (.d true (.int .i64 0)))⟩] [1, 3]) (.block 0 (.loop (.seq (.seq (.region [⟨some 43, none, .mv (.t 3)⟩, ⟨some 44, none, .fa 3 (.t 1)⟩, ⟨some 45, none, .ld none (.t 44)⟩, ⟨some 46, none, .len (.t 45)⟩, ⟨some 47, none, .bin .lss (.t 43) (.t 46)⟩] [1, 3, 47]) (.cond (.t 47) (.skip) (.exit 0))) (.seq (.block 1 (.seq (.region [⟨some 50, none, .fa 3 (.t 1)⟩, ⟨some 51, none, .ld none (.t 50)⟩, ⟨some 52, none, .mv (.t 3)⟩, ⟨some 53, none, .ia 4 (.t 51) (.t 52)⟩, ⟨some 54, none, .ld (some 4) (.t 53)⟩, ⟨some 55, none, .call (.c (.fn 118 [])) [.t 54]⟩, ⟨some 56, none, .not (.t 55)⟩] [1, 3, 56]) (.cond (.t 56) (.seq (.region [⟨some 2, none, .mv (.c (.d true (.bool false)))⟩] [2]) (.ret)) (.skip)))) (.region [⟨some 48, none, .mv (.t 3)⟩, ⟨some 49, none, .bin .add (.t 48) (.c (.d true (.int .i64 1)))⟩, ⟨some 3, none, .mv (.t 49)⟩] [1, 3])))))) (.seq (.draw [⟨some 57, none, .fa 0 (.t 1)⟩, ⟨some 58, none, .ld none (.t 57)⟩, ⟨some 59, none, .bin .neq (.t 58) (.c (.d true (.int .i64 5)))⟩, ⟨some 60, none, .mv (.t 59)⟩, ⟨some 61, some (60, false), .fa 3 (.t 1)⟩, ⟨some 62, some (60, false), .ld none (.t 61)⟩, ⟨some 63, some (60, false), .ia 4 (.t 62) (.c (.d true (.int .i64 1)))⟩, ⟨some 64, some (60, false), .ld (some 4) (.t 63)⟩, ⟨some 65, some (60, false), .fa 3 (.t 1)⟩, ⟨some 66, some (60, false), .ld none (.t 65)⟩, ⟨some 67, some (60, false), .ia 4 (.t 66) (.c (.d true (.int .i64 0)))⟩, ⟨some 68, some (60, false), .ld (some 4) (.t 67)⟩, ⟨some 69, some (60, false), .call (.c (.fn 125 [])) [.t 64, .t 68]⟩, ⟨some 70, some (60, false), .not (.t 69)⟩, ⟨some 71, none, .pick (.t 60) (.c (.d true (.bool true))) (.t 70)⟩, ⟨some 2, none, .mv (.t 71)⟩] [2]) (.ret))))
theorem ok118 : FnOk Tryd.prog Tryd.f118 72 keep118 ac118 [.t 2] := by
  refine ⟨?_, ?_, ?_, ?_, ?_⟩ <;> kernel_rfl

/-! impl.TermSize -/
def keep119 : Nat → List Nat
  | 0 => [1]
  | 1 => [1, 3]
  | 2 => [3, 7, 8, 9]
  | 3 => [3, 7, 8, 9, 10]
  | 4 => [3, 5, 7, 8, 9]
  | 5 => [3, 7, 8, 9]
  | 6 => [3, 7, 8, 9]
  | 7 => [2]
  | _ => []
def ac119 : AC := .seq (.region [⟨some 1, none, .box (.t 0)⟩, ⟨some 2, none, .mv (.c (.d true (.int .i64 0)))⟩] [1]) (.seq (.region [⟨some 3, none, .mv (.c (.d true (.int .i64 1)))⟩] [1, 3]) (.seq (.seq (.region [⟨some 6, none, .fa 3 (.t 1)⟩, ⟨some 7, none, .ld none (.t 6)⟩, ⟨some 8, none, .len (.t 7)⟩, ⟨some 9, none, .mv (.c (.d true (.int .i64 0)))⟩] [3, 7, 8, 9]) (.block 0 (.loop (.seq (.region [⟨some 10, none, .bin .lss (.t 9) (.t 8)⟩] [3, 7, 8, 9, 10]) (.seq (.cond (.t 10) (.skip) (.exit 0)) (.seq (.block 1 (.seq (.region [⟨some 11, none, .ia 4 (.t 7) (.t 9)⟩, ⟨some 12, none, .ld (some 4) (.t 11)⟩, ⟨some 5, none, .alloc [.d true (.int .i64 0), .d true (.int .i64 0), .d true (.str ⟨#[]⟩), .nil]⟩, ⟨none, none, .st 4 (.t 5) (.t 12)⟩] [3, 5, 7, 8, 9]) (.region [⟨some 13, none, .mv (.t 3)⟩, ⟨some 14, none, .ld (some 4) (.t 5)⟩, ⟨some 15, none, .call (.c (.fn 119 [])) [.t 14]⟩, ⟨some 16, none, .bin .add (.t 13) (.t 15)⟩, ⟨some 3, none, .mv (.t 16)⟩] [3, 7, 8, 9]))) (.region [⟨some 17, none, .bin .add (.t 9) (.c (.d true (.int .i64 1)))⟩, ⟨some 9, none, .mv (.t 17)⟩] [3, 7, 8, 9]))))))) (.seq (.region [⟨some 18, none, .mv (.t 3)⟩, ⟨some 2, none, .mv (.t 18)⟩] [2]) (.ret))))
theorem ok119 : FnOk Tryd.prog Tryd.f119 19 keep119 ac119 [.t 2] := by
  refine ⟨?_, ?_, ?_, ?_, ?_⟩ <;> kernel_rfl

/-! impl.formOk -/
def keep120 : Nat → List Nat
  | 0 => [1]
  | 1 => [1, 14]
  | 2 => [2]
  | 3 => [1, 16]
  | 4 => [1, 16, 17]
  | 5 => [2]
  | 6 => [1, 16, 27]
  | 7 => [2]
  | 8 => [1, 38]
  | 9 => [2]
  | 10 => [2]
  | _ => []
def ac120 : AC := .seq (.region [⟨some 1, none, .box (.t 0)⟩, ⟨some 2, none, .mv (.c (.d true (.bool false)))⟩] [1]) (.seq (.seq (.draw [⟨some 3, none, .fa 3 (.t 1)⟩, ⟨some 4, none, .ld none (.t 3)⟩, ⟨some 5, none, .len (.t 4)⟩, ⟨some 6, none, .fa 0 (.t 1)⟩, ⟨some 7, none, .ld none (.t 6)⟩, ⟨some 8, none, .call (.c (.fn 134 [])) [.t 7]⟩, ⟨some 9, none, .bin .neq (.t 5) (.t 8)⟩, ⟨some 10, none, .mv (.t 9)⟩, ⟨some 11, some (10, false), .fa 3 (.t 1)⟩, ⟨some 12, some (10, false), .ld none (.t 11)⟩, ⟨some 13, some (10, false), .call (.c (.fn 135 [])) [.t 12, .c (.fn 136 [])]⟩, ⟨some 14, none, .pick (.t 10) (.c (.d true (.bool true))) (.t 13)⟩] [1, 14]) (.cond (.t 14) (.seq (.region [⟨some 2, none, .mv (.c (.d true (.bool false)))⟩] [2]) (.ret)) (.skip))) (.seq (.seq (.region [⟨some 15, none, .fa 0 (.t 1)⟩, ⟨some 16, none, .ld none (.t 15)⟩] [1, 16]) (.block 0 (.seq (.region [⟨some 18, none, .bin .eql (.t 16) (.c (.d true (.int .i64 1)))⟩, ⟨some 17, none, .mv (.t 18)⟩] [1, 16, 17]) (.cond (.t 17) (.seq (.region [⟨some 19, none, .fa 1 (.t 1)⟩, ⟨some 20, none, .ld none (.t 19)⟩, ⟨some 21, none, .call (.c (.fn 66 [])) [.t 20, .c (.d true (.int .i64 0)), .c (.d true (.int .i64 1000000))]⟩, ⟨some 22, none, .mv (.t 21)⟩, ⟨some 23, some (22, true), .fa 2 (.t 1)⟩, ⟨some 24, some (22, true), .ld none (.t 23)⟩, ⟨some 25, some (22, true), .bin .eql (.t 24) (.c (.d true (.str ⟨#[]⟩)))⟩, ⟨some 26, none, .pick (.t 22) (.t 25) (.c (.d true (.bool false)))⟩, ⟨some 2, none, .mv (.t 26)⟩] [2]) (.ret)) (.seq (.region [⟨some 28, none, .bin .eql (.t 16) (.c (.d true (.int .i64 2)))⟩, ⟨some 27, none, .mv (.t 28)⟩] [1, 16, 27]) (.cond (.t 27) (.seq (.region [⟨some 29, none, .fa 1 (.t 1)⟩, ⟨some 30, none, .ld none (.t 29)⟩, ⟨some 31, none, .bin .eql (.t 30) (.c (.d true (.int .i64 0)))⟩, ⟨some 32, none, .mv (.t 31)⟩, ⟨some 33, some (32, true), .fa 2 (.t 1)⟩, ⟨some 34, some (32, true), .ld none (.t 33)⟩, ⟨some 35, some (32, true), .slen (.t 34)⟩, ⟨some 36, some (32, true), .bin .leq (.t 35) (.c (.d true (.int .i64 300)))⟩, ⟨some 37, none, .pick (.t 32) (.t 36) (.c (.d true (.bool false)))⟩, ⟨some 2, none, .mv (.t 37)⟩] [2]) (.ret)) (.seq (.region [⟨some 39, none, .bin .eql (.t 16) (.c (.d true (.int .i64 5)))⟩, ⟨some 38, none, .mv (.t 39)⟩] [1, 38]) (.cond (.t 38) (.seq (.draw [⟨some 40, none, .fa 1 (.t 1)⟩, ⟨some 41, none, .ld none (.t 40)⟩, ⟨some 42, none, .bin .eql (.t 41) (.c (.d true (.int .i64 0)))⟩, ⟨some 43, none, .mv (.t 42)⟩, ⟨some 44, some (43, true), .fa 2 (.t 1)⟩, ⟨some 45, some (43, true), .ld none (.t 44)⟩, ⟨some 46, some (43, true), .bin .eql (.t 45) (.c (.d true (.str ⟨#[]⟩)))⟩, ⟨some 47, none, .pick (.t 43) (.t 46) (.c (.d true (.bool false)))⟩, ⟨some 48, none, .mv (.t 47)⟩, ⟨some 49, some (48, true), .fa 3 (.t 1)⟩, ⟨some 50, some (48, true), .ld none (.t 49)⟩, ⟨some 51, some (48, true), .ia 4 (.t 50) (.c (.d true (.int .i64 1)))⟩, ⟨some 52, some (48, true), .ld (some 4) (.t 51)⟩, ⟨some 53, some (48, true), .fa 3 (.t 1)⟩, ⟨some 54, some (48, true), .ld none (.t 53)⟩, ⟨some 55, some (48, true), .ia 4 (.t 54) (.c (.d true (.int .i64 0)))⟩, ⟨some 56, some (48, true), .ld (some 4) (.t 55)⟩, ⟨some 57, some (48, true), .call (.c (.fn 126 [])) [.t 52, .t 56]⟩, ⟨some 58, some (48, true), .not (.t 57)⟩, ⟨some 59, none, .pick (.t 48) (.t 58) (.c (.d true (.bool false)))⟩, ⟨some 2, none, .mv (.t 59)⟩] [2]) (.ret)) (.skip))))))))) (.seq (.region [⟨some 60, none, .fa 1 (.t 1)⟩, ⟨some 61, none, .ld none (.t 60)⟩, ⟨some 62, none, .bin .eql (.t 61) (.c (.d true (.int .i64 0)))⟩, ⟨some 63, none, .mv (.t 62)⟩, ⟨some 64, some (63, true), .fa 2 (.t 1)⟩, ⟨some 65, some (63, true), .ld none (.t 64)⟩, ⟨some 66, some (63, true), .bin .eql (.t 65) (.c (.d true (.str ⟨#[]⟩)))⟩, ⟨some 67, none, .pick (.t 63) (.t 66) (.c (.d true (.bool false)))⟩, ⟨some 2, none, .mv (.t 67)⟩] [2]) (.ret))))
theorem ok120 : FnOk Tryd.prog Tryd.f120 68 keep120 ac120 [.t 2] := by
  refine ⟨?_, ?_, ?_, ?_, ?_⟩ <;> kernel_rfl

/-! slices.EqualFunc[[]impl.Term,[]impl.Term,impl.Term,impl.Term] -/
def keep121 : Nat → List Nat
  | 0 => [0, 1, 2]
  | 1 => [0, 1, 2, 14]
  | 2 => [6]
  | 3 => [1, 2, 15, 16, 17]
  | 4 => [1, 2, 15, 16, 17, 18]
  | 5 => [1, 2, 7, 8, 15, 16, 17]
  | 6 => [1, 2, 8, 9, 15, 16, 17]
  | 7 => [1, 2, 15, 16, 17, 30]
  | 8 => [6]
  | 9 => [1, 2, 15, 16, 17]
  | 10 => [6]
  | _ => []
def ac121 : AC := .seq (.region [⟨some 6, none, .mv (.c (.d true (.bool false)))⟩] [0, 1, 2]) (.seq (.seq (.region [⟨some 10, none, .mv (.t 0)⟩, ⟨some 11, none, .len (.t 10)⟩, ⟨some 12, none, .mv (.t 1)⟩, ⟨some 13, none, .len (.t 12)⟩, ⟨some 14, none, .bin .neq (.t 11) (.t 13)⟩] [0, 1, 2, 14]) (.cond (.t 14) (.seq (.region [⟨some 6, none, .mv (.c (.d true (.bool false)))⟩] [6]) (.ret)) (.skip))) (.seq (.seq (.region [⟨some 15, none, .mv (.t 0)⟩, ⟨some 16, none, .len (.t 15)⟩, ⟨some 17, none, .mv (.c (.d true (.int .i64 0)))⟩] [1, 2, 15, 16, 17]) (.block 0 (.loop (.seq (.region [⟨some 18, none, .bin .lss (.t 17) (.t 16)⟩] [1, 2, 15, 16, 17, 18]) (.seq (.cond (.t 18) (.skip) (.exit 0)) (.seq (.block 1 (.seq (.region [⟨some 19, none, .mv (.t 17)⟩, ⟨some 20, none, .ia 4 (.t 15) (.t 17)⟩, ⟨some 21, none, .ld (some 4) (.t 20)⟩, ⟨some 8, none, .alloc [.d true (.int .i64 0), .d true (.int .i64 0), .d true (.str ⟨#[]⟩), .nil]⟩, ⟨some 7, none, .mv (.t 19)⟩, ⟨none, none, .st 4 (.t 8) (.t 21)⟩] [1, 2, 7, 8, 15, 16, 17]) (.seq (.region [⟨some 22, none, .mv (.t 1)⟩, ⟨some 23, none, .mv (.t 7)⟩, ⟨some 24, none, .ia 4 (.t 22) (.t 23)⟩, ⟨some 25, none, .ld (some 4) (.t 24)⟩, ⟨some 9, none, .alloc [.d true (.int .i64 0), .d true (.int .i64 0), .d true (.str ⟨#[]⟩), .nil]⟩, ⟨none, none, .st 4 (.t 9) (.t 25)⟩] [1, 2, 8, 9, 15, 16, 17]) (.seq (.region [⟨some 26, none, .mv (.t 2)⟩, ⟨some 27, none, .ld (some 4) (.t 8)⟩, ⟨some 28, none, .ld (some 4) (.t 9)⟩, ⟨some 29, none, .call (.t 26) [.t 27, .t 28]⟩, ⟨some 30, none, .not (.t 29)⟩] [1, 2, 15, 16, 17, 30]) (.cond (.t 30) (.seq (.region [⟨some 6, none, .mv (.c (.d true (.bool false)))⟩] [6]) (.ret)) (.skip)))))) (.region [⟨some 31, none, .bin .add (.t 17) (.c (.d true (.int .i64 1)))⟩, ⟨some 17, none, .mv (.t 31)⟩] [1, 2, 15, 16, 17]))))))) (.seq (.region [⟨some 6, none, .mv (.c (.d true (.bool true)))⟩] [6]) (.ret))))
theorem ok121 : FnOk Tryd.prog Tryd.f121 32 keep121 ac121 [.t 6] := by
  refine ⟨?_, ?_, ?_, ?_, ?_⟩ <;> kernel_rfl

/-! impl.cloneAll -/
def keep122 : Nat → List Nat
  | 0 => [0]
  | 1 => [0, 3]
  | 2 => [3, 6, 7, 8]
  | 3 => [3, 6, 7, 8, 9]
  | 4 => [3, 5, 6, 7, 8]
  | 5 => [3, 6, 7, 8]
  | 6 => [3, 6, 7, 8]
  | 7 => [2]
  | _ => []
def ac122 : AC := .seq (.region [⟨some 2, none, .own 40 4⟩] [0]) (.seq (.region [⟨some 3, none, .own 40 4⟩] [0, 3]) (.seq (.seq (.region [⟨some 6, none, .mv (.t 0)⟩, ⟨some 7, none, .len (.t 6)⟩, ⟨some 8, none, .mv (.c (.d true (.int .i64 0)))⟩] [3, 6, 7, 8]) (.block 0 (.loop (.seq (.region [⟨some 9, none, .bin .lss (.t 8) (.t 7)⟩] [3, 6, 7, 8, 9]) (.seq (.cond (.t 9) (.skip) (.exit 0)) (.seq (.block 1 (.seq (.region [⟨some 10, none, .ia 4 (.t 6) (.t 8)⟩, ⟨some 11, none, .ld (some 4) (.t 10)⟩, ⟨some 5, none, .alloc [.d true (.int .i64 0), .d true (.int .i64 0), .d true (.str ⟨#[]⟩), .nil]⟩, ⟨none, none, .st 4 (.t 5) (.t 11)⟩] [3, 5, 6, 7, 8]) (.region [⟨some 12, none, .mv (.t 3)⟩, ⟨some 13, none, .ld (some 4) (.t 5)⟩, ⟨some 14, none, .call (.c (.fn 87 [])) [.t 13]⟩, ⟨some 15, none, .bs 40 4 [.t 14]⟩, ⟨some 16, none, .app 40 4 56 (.t 12) (.t 15)⟩, ⟨some 3, none, .mv (.t 16)⟩] [3, 6, 7, 8]))) (.region [⟨some 17, none, .bin .add (.t 8) (.c (.d true (.int .i64 1)))⟩, ⟨some 8, none, .mv (.t 17)⟩] [3, 6, 7, 8]))))))) (.seq (.region [⟨some 18, none, .mv (.t 3)⟩, ⟨some 2, none, .mv (.t 18)⟩] [2]) (.ret))))
theorem ok122 : FnOk Tryd.prog Tryd.f122 19 keep122 ac122 [.t 2] := by
  refine ⟨?_, ?_, ?_, ?_, ?_⟩ <;> kernel_rfl

/-! laws.markText -/
def keep123 : Nat → List Nat
  | 0 => [0]
  | 1 => [0, 5]
  | 2 => [2]
  | 3 => [0, 3]
  | 4 => [0, 3, 7]
  | 5 => [0, 3]
  | 6 => [0, 3]
  | 7 => [2]
  | _ => []
def ac123 : AC := .seq (.region [⟨some 2, none, .mv (.c (.d true (.str ⟨#[]⟩)))⟩] [0]) (.seq (.seq (.region [⟨some 4, none, .mv (.t 0)⟩, ⟨some 5, none, .bin .leq (.t 4) (.c (.d true (.int .i64 0)))⟩] [0, 5]) (.cond (.t 5) (.seq (.region [⟨some 2, none, .mv (.c (.d true (.str ⟨#[109, 48]⟩)))⟩] [2]) (.ret)) (.skip))) (.seq (.region [⟨some 3, none, .mv (.c (.d true (.str ⟨#[]⟩)))⟩] [0, 3]) (.seq (.block 0 (.loop (.seq (.seq (.region [⟨some 6, none, .mv (.t 0)⟩, ⟨some 7, none, .bin .gtr (.t 6) (.c (.d true (.int .i64 0)))⟩] [0, 3, 7]) (.cond (.t 7) (.skip) (.exit 0))) (.block 1 (.seq (.region [⟨some 8, none, .mv (.t 0)⟩, ⟨some 9, none, .bin .rem (.t 8) (.c (.d true (.int .i64 10)))⟩, ⟨some 10, none, .bin .add (.c (.d true (.int .i64 48))) (.t 9)⟩, ⟨some 11, none, .cvi .u8 (.t 10)⟩, ⟨some 12, none, .bs 5 1 [.t 11]⟩, ⟨some 13, none, .bstr (.t 12)⟩, ⟨some 14, none, .mv (.t 3)⟩, ⟨some 15, none, .bin .add (.t 13) (.t 14)⟩, ⟨some 3, none, .mv (.t 15)⟩] [0, 3]) (.region [⟨some 16, none, .mv (.t 0)⟩, ⟨some 17, none, .bin .quo (.t 16) (.c (.d true (.int .i64 10)))⟩, ⟨some 0, none, .mv (.t 17)⟩] [0, 3])))))) (.seq (.region [⟨some 18, none, .mv (.t 3)⟩, ⟨some 19, none, .bin .add (.c (.d true (.str ⟨#[109]⟩))) (.t 18)⟩, ⟨some 2, none, .mv (.t 19)⟩] [2]) (.ret)))))
theorem ok123 : FnOk Tryd.prog Tryd.f123 20 keep123 ac123 [.t 2] := by
  refine ⟨?_, ?_, ?_, ?_, ?_⟩ <;> kernel_rfl

/-! spec.l3Ok -/
def keep124 : Nat → List Nat
  | 0 => [1, 2]
  | 1 => [1, 2, 5]
  | 2 => [2]
  | 3 => [2]
  | _ => []
def ac124 : AC := .seq (.region [⟨some 1, none, .box (.t 0)⟩, ⟨some 2, none, .alloc [.d true (.int .i64 0), .d true (.int .i64 0), .d true (.str ⟨#[]⟩), .nil]⟩] [1, 2]) (.seq (.seq (.region [⟨some 3, none, .ld (some 4) (.t 1)⟩, ⟨some 4, none, .call (.c (.fn 80 [])) [.t 3]⟩, ⟨some 5, none, .not (.t 4)⟩] [1, 2, 5]) (.cond (.t 5) (.seq (.region [⟨some 6, none, .bld [.d true (.int .i64 0), .d true (.int .i64 0), .d true (.str ⟨#[]⟩), .nil] []⟩, ⟨none, none, .st 4 (.t 2) (.t 6)⟩] [2]) (.ret)) (.skip))) (.seq (.region [⟨some 7, none, .ld (some 4) (.t 1)⟩, ⟨none, none, .st 4 (.t 2) (.t 7)⟩] [2]) (.ret)))
theorem ok124 : FnOk Tryd.prog Tryd.f124 8 keep124 ac124 [.c 2 (some 4)] := by
  refine ⟨?_, ?_, ?_, ?_, ?_⟩ <;> kernel_rfl

/-! spec.Before -/
def keep125 : Nat → List Nat
  | 0 => [2, 3]
  | 1 => [2, 3, 6]
  | 2 => [4]
  | 3 => [2, 3, 17]
  | 4 => [4]
  | 5 => [2, 3, 28]
  | 6 => [4]
  | 7 => [2, 3, 39]
  | 8 => [4]
  | 9 => [2, 3, 5]
  | 10 => [2, 3, 5, 58]
  | 11 => [2, 3, 5]
  | 12 => [2, 3, 5, 72]
  | 13 => [4]
  | 14 => [4]
  | _ => []
def ac125 : AC := .seq (.region [⟨some 2, none, .box (.t 0)⟩, ⟨some 3, none, .box (.t 1)⟩, ⟨some 4, none, .mv (.c (.d true (.bool false)))⟩] [2, 3]) (.seq (.block 0 (.seq (.region [⟨some 7, none, .fa 0 (.t 2)⟩, ⟨some 8, none, .ld none (.t 7)⟩, ⟨some 9, none, .fa 0 (.t 3)⟩, ⟨some 10, none, .ld none (.t 9)⟩, ⟨some 11, none, .bin .neq (.t 8) (.t 10)⟩, ⟨some 6, none, .mv (.t 11)⟩] [2, 3, 6]) (.cond (.t 6) (.seq (.region [⟨some 12, none, .fa 0 (.t 2)⟩, ⟨some 13, none, .ld none (.t 12)⟩, ⟨some 14, none, .fa 0 (.t 3)⟩, ⟨some 15, none, .ld none (.t 14)⟩, ⟨some 16, none, .bin .lss (.t 13) (.t 15)⟩, ⟨some 4, none, .mv (.t 16)⟩] [4]) (.ret)) (.seq (.region [⟨some 18, none, .fa 1 (.t 2)⟩, ⟨some 19, none, .ld none (.t 18)⟩, ⟨some 20, none, .fa 1 (.t 3)⟩, ⟨some 21, none, .ld none (.t 20)⟩, ⟨some 22, none, .bin .neq (.t 19) (.t 21)⟩, ⟨some 17, none, .mv (.t 22)⟩] [2, 3, 17]) (.cond (.t 17) (.seq (.region [⟨some 23, none, .fa 1 (.t 2)⟩, ⟨some 24, none, .ld none (.t 23)⟩, ⟨some 25, none, .fa 1 (.t 3)⟩, ⟨some 26, none, .ld none (.t 25)⟩, ⟨some 27, none, .bin .lss (.t 24) (.t 26)⟩, ⟨some 4, none, .mv (.t 27)⟩] [4]) (.ret)) (.seq (.region [⟨some 29, none, .fa 2 (.t 2)⟩, ⟨some 30, none, .ld none (.t 29)⟩, ⟨some 31, none, .fa 2 (.t 3)⟩, ⟨some 32, none, .ld none (.t 31)⟩, ⟨some 33, none, .bin .neq (.t 30) (.t 32)⟩, ⟨some 28, none, .mv (.t 33)⟩] [2, 3, 28]) (.cond (.t 28) (.seq (.region [⟨some 34, none, .fa 2 (.t 2)⟩, ⟨some 35, none, .ld none (.t 34)⟩, ⟨some 36, none, .fa 2 (.t 3)⟩, ⟨some 37, none, .ld none (.t 36)⟩, ⟨some 38, none, .bin .lss (.t 35) (.t 37)⟩, ⟨some 4, none, .mv (.t 38)⟩] [4]) (.ret)) (.seq (.region [⟨some 40, none, .fa 3 (.t 2)⟩, ⟨some 41, none, .ld none (.t 40)⟩, ⟨some 42, none, .len (.t 41)⟩, ⟨some 43, none, .fa 3 (.t 3)⟩, ⟨some 44, none, .ld none (.t 43)⟩, ⟨some 45, none, .len (.t 44)⟩, ⟨some 46, none, .bin .neq (.t 42) (.t 45)⟩, ⟨some 39, none, .mv (.t 46)⟩] [2, 3, 39]) (.cond (.t 39) (.seq (.region [⟨some 47, none, .fa 3 (.t 2)⟩, ⟨some 48, none, .ld none (.t 47)⟩, ⟨some 49, none, .len (.t 48)⟩, ⟨some 50, none, .fa 3 (.t 3)⟩, ⟨some 51, none, .ld none (.t 50)⟩, ⟨some 52, none, .len (.t 51)⟩, ⟨some 53, none, .bin .lss (.t 49) (.t 52)⟩, ⟨some 4, none, .mv (.t 53)⟩] [4]) (.ret)) (.skip)))))))))) (.seq (.seq (.region [⟨some 5, none, .mv (.c (.d true (.int .i64 0)))⟩] [2, 3, 5]) (.block 1 (.loop (.seq (.seq (.region [⟨some 54, none, .mv (.t 5)⟩, ⟨some 55, none, .fa 3 (.t 2)⟩, ⟨some 56, none, .ld none (.t 55)⟩, ⟨some 57, none, .len (.t 56)⟩, ⟨some 58, none, .bin .lss (.t 54) (.t 57)⟩] [2, 3, 5, 58]) (.cond (.t 58) (.skip) (.exit 1))) (.seq (.block 2 (.seq (.draw [⟨some 61, none, .fa 3 (.t 2)⟩, ⟨some 62, none, .ld none (.t 61)⟩, ⟨some 63, none, .mv (.t 5)⟩, ⟨some 64, none, .ia 4 (.t 62) (.t 63)⟩, ⟨some 65, none, .ld (some 4) (.t 64)⟩, ⟨some 66, none, .fa 3 (.t 3)⟩, ⟨some 67, none, .ld none (.t 66)⟩, ⟨some 68, none, .mv (.t 5)⟩, ⟨some 69, none, .ia 4 (.t 67) (.t 68)⟩, ⟨some 70, none, .ld (some 4) (.t 69)⟩, ⟨some 71, none, .call (.c (.fn 82 [])) [.t 65, .t 70]⟩, ⟨some 72, none, .not (.t 71)⟩] [2, 3, 5, 72]) (.cond (.t 72) (.seq (.draw [⟨some 73, none, .fa 3 (.t 2)⟩, ⟨some 74, none, .ld none (.t 73)⟩, ⟨some 75, none, .mv (.t 5)⟩, ⟨some 76, none, .ia 4 (.t 74) (.t 75)⟩, ⟨some 77, none, .ld (some 4) (.t 76)⟩, ⟨some 78, none, .fa 3 (.t 3)⟩, ⟨some 79, none, .ld none (.t 78)⟩, ⟨some 80, none, .mv (.t 5)⟩, ⟨some 81, none, .ia 4 (.t 79) (.t 80)⟩, ⟨some 82, none, .ld (some 4) (.t 81)⟩, ⟨some 83, none, .call (.c (.fn 125 [])) [.t 77, .t 82]⟩, ⟨some 4, none, .mv (.t 83)⟩] [4]) (.ret)) (.skip)))) (.region [⟨some 59, none, .mv (.t 5)⟩, ⟨some 60, none, .bin .add (.t 59) (.c (.d true (.int .i64 1)))⟩, ⟨some 5, none, .mv (.t 60)⟩] [2, 3, 5])))))) (.seq (.region [⟨some 4, none, .mv (.c (.d true (.bool false)))⟩] [4]) (.ret))))
theorem ok125 : FnOk Tryd.prog Tryd.f125 84 keep125 ac125 [.t 4] := by
  refine ⟨?_, ?_, ?_, ?_, ?_⟩ <;> kernel_rfl

/-! impl.Before -/
def keep126 : Nat → List Nat
  | 0 => [2, 3]
  | 1 => [2, 3, 7]
  | 2 => [4]
  | 3 => [2, 3, 18]
  | 4 => [4]
  | 5 => [2, 3, 29]
  | 6 => [4]
  | 7 => [2, 3, 40]
  | 8 => [4]
  | 9 => [3, 56, 57, 58]
  | 10 => [3, 56, 57, 58, 59]
  | 11 => [3, 5, 6, 56, 57, 58]
  | 12 => [3, 5, 6, 56, 57, 58, 70]
  | 13 => [4]
  | 14 => [3, 56, 57, 58]
  | 15 => [4]
  | _ => []
def ac126 : AC := .seq (.region [⟨some 2, none, .box (.t 0)⟩, ⟨some 3, none, .box (.t 1)⟩, ⟨some 4, none, .mv (.c (.d true (.bool false)))⟩] [2, 3]) (.seq (.block 0 (.seq (.region [⟨some 8, none, .fa 0 (.t 2)⟩, ⟨some 9, none, .ld none (.t 8)⟩, ⟨some 10, none, .fa 0 (.t 3)⟩, ⟨some 11, none, .ld none (.t 10)⟩, ⟨some 12, none, .bin .neq (.t 9) (.t 11)⟩, ⟨some 7, none, .mv (.t 12)⟩] [2, 3, 7]) (.cond (.t 7) (.seq (.region [⟨some 13, none, .fa 0 (.t 2)⟩, ⟨some 14, none, .ld none (.t 13)⟩, ⟨some 15, none, .fa 0 (.t 3)⟩, ⟨some 16, none, .ld none (.t 15)⟩, ⟨some 17, none, .bin .lss (.t 14) (.t 16)⟩, ⟨some 4, none, .mv (.t 17)⟩] [4]) (.ret)) (.seq (.region [⟨some 19, none, .fa 1 (.t 2)⟩, ⟨some 20, none, .ld none (.t 19)⟩, ⟨some 21, none, .fa 1 (.t 3)⟩, ⟨some 22, none, .ld none (.t 21)⟩, ⟨some 23, none, .bin .neq (.t 20) (.t 22)⟩, ⟨some 18, none, .mv (.t 23)⟩] [2, 3, 18]) (.cond (.t 18) (.seq (.region [⟨some 24, none, .fa 1 (.t 2)⟩, ⟨some 25, none, .ld none (.t 24)⟩, ⟨some 26, none, .fa 1 (.t 3)⟩, ⟨some 27, none, .ld none (.t 26)⟩, ⟨some 28, none, .bin .lss (.t 25) (.t 27)⟩, ⟨some 4, none, .mv (.t 28)⟩] [4]) (.ret)) (.seq (.region [⟨some 30, none, .fa 2 (.t 2)⟩, ⟨some 31, none, .ld none (.t 30)⟩, ⟨some 32, none, .fa 2 (.t 3)⟩, ⟨some 33, none, .ld none (.t 32)⟩, ⟨some 34, none, .bin .neq (.t 31) (.t 33)⟩, ⟨some 29, none, .mv (.t 34)⟩] [2, 3, 29]) (.cond (.t 29) (.seq (.region [⟨some 35, none, .fa 2 (.t 2)⟩, ⟨some 36, none, .ld none (.t 35)⟩, ⟨some 37, none, .fa 2 (.t 3)⟩, ⟨some 38, none, .ld none (.t 37)⟩, ⟨some 39, none, .bin .lss (.t 36) (.t 38)⟩, ⟨some 4, none, .mv (.t 39)⟩] [4]) (.ret)) (.seq (.region [⟨some 41, none, .fa 3 (.t 2)⟩, ⟨some 42, none, .ld none (.t 41)⟩, ⟨some 43, none, .len (.t 42)⟩, ⟨some 44, none, .fa 3 (.t 3)⟩, ⟨some 45, none, .ld none (.t 44)⟩, ⟨some 46, none, .len (.t 45)⟩, ⟨some 47, none, .bin .neq (.t 43) (.t 46)⟩, ⟨some 40, none, .mv (.t 47)⟩] [2, 3, 40]) (.cond (.t 40) (.seq (.region [⟨some 48, none, .fa 3 (.t 2)⟩, ⟨some 49, none, .ld none (.t 48)⟩, ⟨some 50, none, .len (.t 49)⟩, ⟨some 51, none, .fa 3 (.t 3)⟩, ⟨some 52, none, .ld none (.t 51)⟩, ⟨some 53, none, .len (.t 52)⟩, ⟨some 54, none, .bin .lss (.t 50) (.t 53)⟩, ⟨some 4, none, .mv (.t 54)⟩] [4]) (.ret)) (.skip)))))))))) (.seq (.seq (.region [⟨some 55, none, .fa 3 (.t 2)⟩, ⟨some 56, none, .ld none (.t 55)⟩, ⟨some 57, none, .len (.t 56)⟩, ⟨some 58, none, .mv (.c (.d true (.int .i64 0)))⟩] [3, 56, 57, 58]) (.block 1 (.loop (.seq (.region [⟨some 59, none, .bin .lss (.t 58) (.t 57)⟩] [3, 56, 57, 58, 59]) (.seq (.cond (.t 59) (.skip) (.exit 1)) (.seq (.block 2 (.seq (.region [⟨some 60, none, .mv (.t 58)⟩, ⟨some 61, none, .ia 4 (.t 56) (.t 58)⟩, ⟨some 62, none, .ld (some 4) (.t 61)⟩, ⟨some 6, none, .alloc [.d true (.int .i64 0), .d true (.int .i64 0), .d true (.str ⟨#[]⟩), .nil]⟩, ⟨some 5, none, .mv (.t 60)⟩, ⟨none, none, .st 4 (.t 6) (.t 62)⟩] [3, 5, 6, 56, 57, 58]) (.seq (.draw [⟨some 63, none, .ld (some 4) (.t 6)⟩, ⟨some 64, none, .fa 3 (.t 3)⟩, ⟨some 65, none, .ld none (.t 64)⟩, ⟨some 66, none, .mv (.t 5)⟩, ⟨some 67, none, .ia 4 (.t 65) (.t 66)⟩, ⟨some 68, none, .ld (some 4) (.t 67)⟩, ⟨some 69, none, .call (.c (.fn 85 [])) [.t 63, .t 68]⟩, ⟨some 70, none, .not (.t 69)⟩] [3, 5, 6, 56, 57, 58, 70]) (.cond (.t 70) (.seq (.draw [⟨some 71, none, .ld (some 4) (.t 6)⟩, ⟨some 72, none, .fa 3 (.t 3)⟩, ⟨some 73, none, .ld none (.t 72)⟩, ⟨some 74, none, .mv (.t 5)⟩, ⟨some 75, none, .ia 4 (.t 73) (.t 74)⟩, ⟨some 76, none, .ld (some 4) (.t 75)⟩, ⟨some 77, none, .call (.c (.fn 126 [])) [.t 71, .t 76]⟩, ⟨some 4, none, .mv (.t 77)⟩] [4]) (.ret)) (.skip))))) (.region [⟨some 78, none, .bin .add (.t 58) (.c (.d true (.int .i64 1)))⟩, ⟨some 58, none, .mv (.t 78)⟩] [3, 56, 57, 58]))))))) (.seq (.region [⟨some 4, none, .mv (.c (.d true (.bool false)))⟩] [4]) (.ret))))
theorem ok126 : FnOk Tryd.prog Tryd.f126 79 keep126 ac126 [.t 4] := by
  refine ⟨?_, ?_, ?_, ?_, ?_⟩ <;> kernel_rfl

/-! spec.l1Kids -/
def keep133 : Nat → List Nat
  | 0 => [0]
  | 1 => [3]
  | 2 => [3, 4]
  | 3 => [3, 4]
  | 4 => [2]
  | 5 => [3, 7]
  | 6 => [3, 7]
  | 7 => [2]
  | 8 => [3, 10]
  | 9 => [3, 10]
  | 10 => [3, 10]
  | 11 => [10]
  | 12 => [2]
  | 13 => [2]
  | _ => []
def ac133 : AC := .seq (.region [⟨some 2, none, .mv (.c (.d true (.int .i64 0)))⟩] [0]) (.seq (.seq (.region [⟨some 3, none, .mv (.t 0)⟩] [3]) (.block 0 (.seq (.seq (.region [⟨some 5, none, .bin .eql (.t 3) (.c (.d true (.int .i64 1)))⟩, ⟨some 4, none, .mv (.t 5)⟩] [3, 4]) (.cond (.t 4) (.skip) (.region [⟨some 6, none, .bin .eql (.t 3) (.c (.d true (.int .i64 2)))⟩, ⟨some 4, none, .mv (.t 6)⟩] [3, 4]))) (.cond (.t 4) (.seq (.region [⟨some 2, none, .mv (.c (.d true (.int .i64 0)))⟩] [2]) (.ret)) (.seq (.seq (.region [⟨some 8, none, .bin .eql (.t 3) (.c (.d true (.int .i64 4)))⟩, ⟨some 7, none, .mv (.t 8)⟩] [3, 7]) (.cond (.t 7) (.skip) (.region [⟨some 9, none, .bin .eql (.t 3) (.c (.d true (.int .i64 6)))⟩, ⟨some 7, none, .mv (.t 9)⟩] [3, 7]))) (.cond (.t 7) (.seq (.region [⟨some 2, none, .mv (.c (.d true (.int .i64 1)))⟩] [2]) (.ret)) (.seq (.seq (.region [⟨some 11, none, .bin .eql (.t 3) (.c (.d true (.int .i64 3)))⟩, ⟨some 10, none, .mv (.t 11)⟩] [3, 10]) (.cond (.t 10) (.skip) (.seq (.region [⟨some 12, none, .bin .eql (.t 3) (.c (.d true (.int .i64 5)))⟩, ⟨some 10, none, .mv (.t 12)⟩] [3, 10]) (.cond (.t 10) (.skip) (.seq (.region [⟨some 13, none, .bin .eql (.t 3) (.c (.d true (.int .i64 7)))⟩, ⟨some 10, none, .mv (.t 13)⟩] [3, 10]) (.cond (.t 10) (.skip) (.region [⟨some 14, none, .bin .eql (.t 3) (.c (.d true (.int .i64 8)))⟩, ⟨some 10, none, .mv (.t 14)⟩] [10]))))))) (.cond (.t 10) (.seq (.region [⟨some 2, none, .mv (.c (.d true (.int .i64 2)))⟩] [2]) (.ret)) (.skip))))))))) (.seq (.region [⟨some 2, none, .mv (.c (.d true (.int .i64 (-1))))⟩] [2]) (.ret)))
theorem ok133 : FnOk Tryd.prog Tryd.f133 15 keep133 ac133 [.t 2] := by
  refine ⟨?_, ?_, ?_, ?_, ?_⟩ <;> kernel_rfl

/-! impl.arity -/
def keep134 : Nat → List Nat
  | 0 => [0]
  | 1 => [3]
  | 2 => [3, 4]
  | 3 => [3, 4]
  | 4 => [2]
  | 5 => [3, 7]
  | 6 => [3, 7]
  | 7 => [2]
  | 8 => [3, 10]
  | 9 => [3, 10]
  | 10 => [3, 10]
  | 11 => [10]
  | 12 => [2]
  | 13 => [2]
  | _ => []
def ac134 : AC := .seq (.region [⟨some 2, none, .mv (.c (.d true (.int .i64 0)))⟩] [0]) (.seq (.seq (.region [⟨some 3, none, .mv (.t 0)⟩] [3]) (.block 0 (.seq (.seq (.region [⟨some 5, none, .bin .eql (.t 3) (.c (.d true (.int .i64 1)))⟩, ⟨some 4, none, .mv (.t 5)⟩] [3, 4]) (.cond (.t 4) (.skip) (.region [⟨some 6, none, .bin .eql (.t 3) (.c (.d true (.int .i64 2)))⟩, ⟨some 4, none, .mv (.t 6)⟩] [3, 4]))) (.cond (.t 4) (.seq (.region [⟨some 2, none, .mv (.c (.d true (.int .i64 0)))⟩] [2]) (.ret)) (.seq (.seq (.region [⟨some 8, none, .bin .eql (.t 3) (.c (.d true (.int .i64 4)))⟩, ⟨some 7, none, .mv (.t 8)⟩] [3, 7]) (.cond (.t 7) (.skip) (.region [⟨some 9, none, .bin .eql (.t 3) (.c (.d true (.int .i64 6)))⟩, ⟨some 7, none, .mv (.t 9)⟩] [3, 7]))) (.cond (.t 7) (.seq (.region [⟨some 2, none, .mv (.c (.d true (.int .i64 1)))⟩] [2]) (.ret)) (.seq (.seq (.region [⟨some 11, none, .bin .eql (.t 3) (.c (.d true (.int .i64 3)))⟩, ⟨some 10, none, .mv (.t 11)⟩] [3, 10]) (.cond (.t 10) (.skip) (.seq (.region [⟨some 12, none, .bin .eql (.t 3) (.c (.d true (.int .i64 5)))⟩, ⟨some 10, none, .mv (.t 12)⟩] [3, 10]) (.cond (.t 10) (.skip) (.seq (.region [⟨some 13, none, .bin .eql (.t 3) (.c (.d true (.int .i64 7)))⟩, ⟨some 10, none, .mv (.t 13)⟩] [3, 10]) (.cond (.t 10) (.skip) (.region [⟨some 14, none, .bin .eql (.t 3) (.c (.d true (.int .i64 8)))⟩, ⟨some 10, none, .mv (.t 14)⟩] [10]))))))) (.cond (.t 10) (.seq (.region [⟨some 2, none, .mv (.c (.d true (.int .i64 2)))⟩] [2]) (.ret)) (.skip))))))))) (.seq (.region [⟨some 2, none, .mv (.c (.d true (.int .i64 (-1))))⟩] [2]) (.ret)))
theorem ok134 : FnOk Tryd.prog Tryd.f134 15 keep134 ac134 [.t 2] := by
  refine ⟨?_, ?_, ?_, ?_, ?_⟩ <;> kernel_rfl

/-! slices.ContainsFunc[[]impl.Term,impl.Term] -/
def keep135 : Nat → List Nat
  | 0 => [0, 1]
  | 1 => [4]
  | _ => []
def ac135 : AC := .seq (.region [⟨some 4, none, .mv (.c (.d true (.bool false)))⟩] [0, 1]) (.seq (.region [⟨some 5, none, .mv (.t 0)⟩, ⟨some 6, none, .mv (.t 1)⟩, ⟨some 7, none, .call (.c (.fn 148 [])) [.t 5, .t 6]⟩, ⟨some 8, none, .bin .geq (.t 7) (.c (.d true (.int .i64 0)))⟩, ⟨some 4, none, .mv (.t 8)⟩] [4]) (.ret))
theorem ok135 : FnOk Tryd.prog Tryd.f135 9 keep135 ac135 [.t 4] := by
  refine ⟨?_, ?_, ?_, ?_, ?_⟩ <;> kernel_rfl

/-! impl.formOk$1 -/
def keep136 : Nat → List Nat
  | 0 => [1]
  | 1 => [2]
  | _ => []
def ac136 : AC := .seq (.region [⟨some 1, none, .box (.t 0)⟩, ⟨some 2, none, .mv (.c (.d true (.bool false)))⟩] [1]) (.seq (.region [⟨some 3, none, .ld (some 4) (.t 1)⟩, ⟨some 4, none, .call (.c (.fn 120 [])) [.t 3]⟩, ⟨some 5, none, .not (.t 4)⟩, ⟨some 2, none, .mv (.t 5)⟩] [2]) (.ret))
theorem ok136 : FnOk Tryd.prog Tryd.f136 6 keep136 ac136 [.t 2] := by
  refine ⟨?_, ?_, ?_, ?_, ?_⟩ <;> kernel_rfl

/-! slices.IndexFunc[[]impl.Term,impl.Term] -/
def keep148 : Nat → List Nat
  | 0 => [0, 1]
  | 1 => [0, 1, 7, 8]
  | 2 => [0, 1, 7, 8, 9]
  | 3 => [0, 1, 5, 7, 8]
  | 4 => [0, 1, 5, 7, 8, 16]
  | 5 => [4]
  | 6 => [0, 1, 7, 8]
  | 7 => [4]
  | _ => []
def ac148 : AC := .seq (.region [⟨some 4, none, .mv (.c (.d true (.int .i64 0)))⟩] [0, 1]) (.seq (.seq (.region [⟨some 6, none, .mv (.t 0)⟩, ⟨some 7, none, .len (.t 6)⟩, ⟨some 8, none, .mv (.c (.d true (.int .i64 0)))⟩] [0, 1, 7, 8]) (.block 0 (.loop (.seq (.region [⟨some 9, none, .bin .lss (.t 8) (.t 7)⟩] [0, 1, 7, 8, 9]) (.seq (.cond (.t 9) (.skip) (.exit 0)) (.seq (.block 1 (.seq (.region [⟨some 10, none, .mv (.t 8)⟩, ⟨some 5, none, .mv (.t 10)⟩] [0, 1, 5, 7, 8]) (.seq (.region [⟨some 11, none, .mv (.t 1)⟩, ⟨some 12, none, .mv (.t 0)⟩, ⟨some 13, none, .mv (.t 5)⟩, ⟨some 14, none, .ia 4 (.t 12) (.t 13)⟩, ⟨some 15, none, .ld (some 4) (.t 14)⟩, ⟨some 16, none, .call (.t 11) [.t 15]⟩] [0, 1, 5, 7, 8, 16]) (.cond (.t 16) (.seq (.region [⟨some 17, none, .mv (.t 5)⟩, ⟨some 4, none, .mv (.t 17)⟩] [4]) (.ret)) (.skip))))) (.region [⟨some 18, none, .bin .add (.t 8) (.c (.d true (.int .i64 1)))⟩, ⟨some 8, none, .mv (.t 18)⟩] [0, 1, 7, 8]))))))) (.seq (.region [⟨some 4, none, .mv (.c (.d true (.int .i64 (-1))))⟩] [4]) (.ret)))
theorem ok148 : FnOk Tryd.prog Tryd.f148 19 keep148 ac148 [.t 4] := by
  refine ⟨?_, ?_, ?_, ?_, ?_⟩ <;> kernel_rfl

end Go.Proofs.YtdnenindpapniaaDoor
