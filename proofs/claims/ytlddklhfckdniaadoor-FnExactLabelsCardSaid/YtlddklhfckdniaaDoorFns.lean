/- Functions, as code over abstract states. -/
import Derived.Test.YtlddklhfckdniaaDoorS12
import Derived.Test.YtlddklhfckdniaaDoorProg
set_option linter.unusedVariables false
set_option linter.unusedSimpArgs false
set_option maxRecDepth 100000
namespace Go.Proofs.YtlddklhfckdniaaDoor
open Go.RowKit Sym

theorem mo : Tryd.prog.follows .mixedOrders = true := by kernel_rfl
/-! laws.FnExactLabels -/
def keep3 : Nat → List Nat
  | 0 => [0]
  | 1 => [0, 10]
  | 2 => [2]
  | 3 => [0, 3]
  | 4 => [0, 3, 4]
  | 5 => [0, 3, 4, 18]
  | 6 => [2]
  | 7 => [0, 3, 4, 5]
  | 8 => [0, 3, 4, 5]
  | 9 => [0, 3, 4, 5, 6]
  | 10 => [0, 3, 4, 5, 6]
  | 11 => [0, 3, 4, 5, 6, 26]
  | 12 => [2]
  | 13 => [0, 3, 4, 5, 29]
  | 14 => [2]
  | 15 => [3, 4, 5, 7]
  | 16 => [4, 5, 35]
  | 17 => [2]
  | 18 => [4, 5, 6]
  | 19 => [5, 6]
  | 20 => [5, 6, 40]
  | 21 => [2]
  | 22 => [43]
  | 23 => [2]
  | 24 => [2]
  | _ => []
def ac3 : AC := .seq (.region [⟨some 2, none, .mv (.c (.d true (.bool false)))⟩] [0]) (.seq (.seq (.region [⟨some 8, none, .mv (.t 0)⟩, ⟨some 9, none, .slen (.t 8)⟩, ⟨some 10, none, .bin .gtr (.t 9) (.c (.d true (.int .i64 1048576)))⟩] [0, 10]) (.cond (.t 10) (.seq (.region [⟨some 2, none, .mv (.c (.d true (.bool true)))⟩] [2]) (.ret)) (.skip))) (.seq (.region [⟨some 11, none, .mv (.t 0)⟩, ⟨some 12, none, .call (.c (.fn 5 [])) [.t 11]⟩, ⟨some 3, none, .mv (.t 12)⟩] [0, 3]) (.seq (.region [⟨some 13, none, .mv (.t 0)⟩, ⟨some 14, none, .call (.c (.fn 6 [])) [.t 13]⟩, ⟨some 4, none, .mv (.t 14)⟩] [0, 3, 4]) (.seq (.seq (.region [⟨some 15, none, .mv (.t 4)⟩, ⟨some 16, none, .mv (.t 3)⟩, ⟨some 17, none, .call (.c (.fn 7 [])) [.t 15, .t 16]⟩, ⟨some 18, none, .not (.t 17)⟩] [0, 3, 4, 18]) (.cond (.t 18) (.seq (.region [⟨some 2, none, .mv (.c (.d true (.bool false)))⟩] [2]) (.ret)) (.skip))) (.seq (.region [⟨some 5, none, .mv (.c (.d true (.int .i64 1)))⟩] [0, 3, 4, 5]) (.seq (.region [⟨some 19, none, .mv (.t 4)⟩, ⟨some 20, none, .mv (.t 5)⟩, ⟨some 21, none, .call (.c (.fn 8 [])) [.t 19, .t 20]⟩, ⟨some 5, none, .mv (.t 21)⟩] [0, 3, 4, 5]) (.seq (.region [⟨some 6, none, .mv (.c (.d true (.int .i64 1)))⟩] [0, 3, 4, 5, 6]) (.seq (.region [⟨some 22, none, .mv (.t 4)⟩, ⟨some 23, none, .mv (.t 6)⟩, ⟨some 24, none, .call (.c (.fn 9 [])) [.t 22, .t 23]⟩, ⟨some 6, none, .mv (.t 24)⟩] [0, 3, 4, 5, 6]) (.seq (.seq (.region [⟨some 25, none, .mv (.t 6)⟩, ⟨some 26, none, .bin .lss (.t 25) (.c (.d true (.int .i64 0)))⟩] [0, 3, 4, 5, 6, 26]) (.cond (.t 26) (.seq (.region [⟨some 2, none, .mv (.c (.d true (.bool false)))⟩] [2]) (.ret)) (.skip))) (.seq (.seq (.region [⟨some 27, none, .mv (.t 6)⟩, ⟨some 28, none, .mv (.t 5)⟩, ⟨some 29, none, .bin .neq (.t 27) (.t 28)⟩] [0, 3, 4, 5, 29]) (.cond (.t 29) (.seq (.region [⟨some 2, none, .mv (.c (.d true (.bool false)))⟩] [2]) (.ret)) (.skip))) (.seq (.region [⟨some 30, none, .mv (.t 0)⟩, ⟨some 31, none, .call (.c (.fn 6 [])) [.t 30]⟩, ⟨some 7, none, .mv (.t 31)⟩] [3, 4, 5, 7]) (.seq (.seq (.region [⟨some 32, none, .mv (.t 7)⟩, ⟨some 33, none, .mv (.t 3)⟩, ⟨some 34, none, .call (.c (.fn 7 [])) [.t 32, .t 33]⟩, ⟨some 35, none, .not (.t 34)⟩] [4, 5, 35]) (.cond (.t 35) (.seq (.region [⟨some 2, none, .mv (.c (.d true (.bool false)))⟩] [2]) (.ret)) (.skip))) (.seq (.region [⟨some 6, none, .mv (.c (.d true (.int .i64 1)))⟩] [4, 5, 6]) (.seq (.region [⟨some 36, none, .mv (.t 4)⟩, ⟨some 37, none, .mv (.t 6)⟩, ⟨some 38, none, .call (.c (.fn 9 [])) [.t 36, .t 37]⟩, ⟨some 6, none, .mv (.t 38)⟩] [5, 6]) (.seq (.seq (.region [⟨some 39, none, .mv (.t 6)⟩, ⟨some 40, none, .bin .lss (.t 39) (.c (.d true (.int .i64 0)))⟩] [5, 6, 40]) (.cond (.t 40) (.seq (.region [⟨some 2, none, .mv (.c (.d true (.bool false)))⟩] [2]) (.ret)) (.skip))) (.seq (.seq (.region [⟨some 41, none, .mv (.t 6)⟩, ⟨some 42, none, .mv (.t 5)⟩, ⟨some 43, none, .bin .neq (.t 41) (.t 42)⟩] [43]) (.cond (.t 43) (.seq (.region [⟨some 2, none, .mv (.c (.d true (.bool false)))⟩] [2]) (.ret)) (.skip))) (.seq (.region [⟨some 2, none, .mv (.c (.d true (.bool true)))⟩] [2]) (.ret))))))))))))))))))
theorem ok3 : FnOk Tryd.prog Tryd.f3 44 keep3 ac3 [.t 2] := by
  refine ⟨?_, ?_, ?_, ?_, ?_⟩ <;> kernel_rfl

/-! laws.FnExactHostOk -/
def keep4 : Nat → List Nat
  | 0 => [0]
  | 1 => [0, 7]
  | 2 => [2]
  | 3 => [0, 3]
  | 4 => [3, 4]
  | 5 => [14]
  | 6 => [2]
  | 7 => [2]
  | _ => []
def ac4 : AC := .seq (.region [⟨some 2, none, .mv (.c (.d true (.bool false)))⟩] [0]) (.seq (.seq (.region [⟨some 5, none, .mv (.t 0)⟩, ⟨some 6, none, .slen (.t 5)⟩, ⟨some 7, none, .bin .gtr (.t 6) (.c (.d true (.int .i64 1048576)))⟩] [0, 7]) (.cond (.t 7) (.seq (.region [⟨some 2, none, .mv (.c (.d true (.bool true)))⟩] [2]) (.ret)) (.skip))) (.seq (.region [⟨some 8, none, .mv (.t 0)⟩, ⟨some 9, none, .call (.c (.fn 10 [])) [.t 8]⟩, ⟨some 3, none, .mv (.t 9)⟩] [0, 3]) (.seq (.region [⟨some 10, none, .mv (.t 0)⟩, ⟨some 11, none, .call (.c (.fn 11 [])) [.t 10]⟩, ⟨some 4, none, .mv (.t 11)⟩] [3, 4]) (.seq (.seq (.region [⟨some 12, none, .mv (.t 4)⟩, ⟨some 13, none, .mv (.t 3)⟩, ⟨some 14, none, .beq true (.t 12) (.t 13)⟩] [14]) (.cond (.t 14) (.seq (.region [⟨some 2, none, .mv (.c (.d true (.bool false)))⟩] [2]) (.ret)) (.skip))) (.seq (.region [⟨some 2, none, .mv (.c (.d true (.bool true)))⟩] [2]) (.ret))))))
theorem ok4 : FnOk Tryd.prog Tryd.f4 15 keep4 ac4 [.t 2] := by
  refine ⟨?_, ?_, ?_, ?_, ?_⟩ <;> kernel_rfl

/-! spec.Labels -/
def keep5 : Nat → List Nat
  | 0 => [0]
  | 1 => [0, 3]
  | 2 => [0, 3, 4]
  | 3 => [0, 3, 4, 5]
  | 4 => [0, 3, 4, 5, 10]
  | 5 => [0, 3, 4, 5]
  | 6 => [0, 3, 4, 5, 22]
  | 7 => [0, 3, 5]
  | 8 => [0, 3, 4, 5]
  | 9 => [2]
  | _ => []
def ac5 : AC := .seq (.region [⟨some 2, none, .own 9 1⟩] [0]) (.seq (.region [⟨some 6, none, .bs 9 1 []⟩, ⟨some 3, none, .mv (.t 6)⟩] [0, 3]) (.seq (.region [⟨some 4, none, .mv (.c (.d true (.int .i64 0)))⟩] [0, 3, 4]) (.seq (.seq (.region [⟨some 5, none, .mv (.c (.d true (.int .i64 0)))⟩] [0, 3, 4, 5]) (.block 0 (.loop (.seq (.seq (.region [⟨some 7, none, .mv (.t 5)⟩, ⟨some 8, none, .mv (.t 0)⟩, ⟨some 9, none, .slen (.t 8)⟩, ⟨some 10, none, .bin .leq (.t 7) (.t 9)⟩] [0, 3, 4, 5, 10]) (.cond (.t 10) (.skip) (.exit 0))) (.seq (.block 1 (.seq (.region [⟨some 13, none, .mv (.t 5)⟩, ⟨some 14, none, .mv (.t 0)⟩, ⟨some 15, none, .slen (.t 14)⟩, ⟨some 16, none, .bin .eql (.t 13) (.t 15)⟩, ⟨some 17, none, .mv (.t 16)⟩, ⟨some 18, some (17, false), .mv (.t 0)⟩, ⟨some 19, some (17, false), .mv (.t 5)⟩, ⟨some 20, some (17, false), .ix (.t 18) (.t 19)⟩, ⟨some 21, some (17, false), .bin .eql (.t 20) (.c (.d true (.int .u8 46)))⟩, ⟨some 22, none, .pick (.t 17) (.c (.d true (.bool true))) (.t 21)⟩] [0, 3, 4, 5, 22]) (.cond (.t 22) (.seq (.region [⟨some 23, none, .mv (.t 3)⟩, ⟨some 24, none, .mv (.t 0)⟩, ⟨some 25, none, .mv (.t 4)⟩, ⟨some 26, none, .mv (.t 5)⟩, ⟨some 27, none, .sls (.t 24) (some (.t 25)) (some (.t 26))⟩, ⟨some 28, none, .bs 9 1 [.t 27]⟩, ⟨some 29, none, .app 9 1 16 (.t 23) (.t 28)⟩, ⟨some 3, none, .mv (.t 29)⟩] [0, 3, 5]) (.region [⟨some 30, none, .mv (.t 5)⟩, ⟨some 31, none, .bin .add (.t 30) (.c (.d true (.int .i64 1)))⟩, ⟨some 4, none, .mv (.t 31)⟩] [0, 3, 4, 5])) (.skip)))) (.region [⟨some 11, none, .mv (.t 5)⟩, ⟨some 12, none, .bin .add (.t 11) (.c (.d true (.int .i64 1)))⟩, ⟨some 5, none, .mv (.t 12)⟩] [0, 3, 4, 5])))))) (.seq (.region [⟨some 32, none, .mv (.t 3)⟩, ⟨some 2, none, .mv (.t 32)⟩] [2]) (.ret)))))
theorem ok5 : FnOk Tryd.prog Tryd.f5 33 keep5 ac5 [.t 2] := by
  refine ⟨?_, ?_, ?_, ?_, ?_⟩ <;> kernel_rfl

/-! impl.Labels -/
def keep6 : Nat → List Nat
  | 0 => [0]
  | 1 => [2]
  | _ => []
def ac6 : AC := .seq (.region [⟨some 2, none, .own 9 1⟩] [0]) (.seq (.region [⟨some 3, none, .mv (.t 0)⟩, ⟨some 4, none, .call (.c (.fn 12 [])) [.t 3, .c (.d true (.str ⟨#[46]⟩))]⟩, ⟨some 2, none, .mv (.t 4)⟩] [2]) (.ret))
theorem ok6 : FnOk Tryd.prog Tryd.f6 5 keep6 ac6 [.t 2] := by
  refine ⟨?_, ?_, ?_, ?_, ?_⟩ <;> kernel_rfl

/-! laws.eqStringS -/
def keep7 : Nat → List Nat
  | 0 => [0, 1]
  | 1 => [0, 1, 10]
  | 2 => [4]
  | 3 => [0, 1, 5]
  | 4 => [0, 1, 5, 14]
  | 5 => [0, 1, 5]
  | 6 => [0, 1, 5, 25]
  | 7 => [4]
  | 8 => [4]
  | _ => []
def ac7 : AC := .seq (.region [⟨some 4, none, .mv (.c (.d true (.bool false)))⟩] [0, 1]) (.seq (.seq (.region [⟨some 6, none, .mv (.t 0)⟩, ⟨some 7, none, .len (.t 6)⟩, ⟨some 8, none, .mv (.t 1)⟩, ⟨some 9, none, .len (.t 8)⟩, ⟨some 10, none, .bin .neq (.t 7) (.t 9)⟩] [0, 1, 10]) (.cond (.t 10) (.seq (.region [⟨some 4, none, .mv (.c (.d true (.bool false)))⟩] [4]) (.ret)) (.skip))) (.seq (.seq (.region [⟨some 5, none, .mv (.c (.d true (.int .i64 0)))⟩] [0, 1, 5]) (.block 0 (.loop (.seq (.seq (.region [⟨some 11, none, .mv (.t 5)⟩, ⟨some 12, none, .mv (.t 0)⟩, ⟨some 13, none, .len (.t 12)⟩, ⟨some 14, none, .bin .lss (.t 11) (.t 13)⟩] [0, 1, 5, 14]) (.cond (.t 14) (.skip) (.exit 0))) (.seq (.block 1 (.seq (.draw [⟨some 17, none, .mv (.t 0)⟩, ⟨some 18, none, .mv (.t 5)⟩, ⟨some 19, none, .ia 1 (.t 17) (.t 18)⟩, ⟨some 20, none, .ld none (.t 19)⟩, ⟨some 21, none, .mv (.t 1)⟩, ⟨some 22, none, .mv (.t 5)⟩, ⟨some 23, none, .ia 1 (.t 21) (.t 22)⟩, ⟨some 24, none, .ld none (.t 23)⟩, ⟨some 25, none, .bin .neq (.t 20) (.t 24)⟩] [0, 1, 5, 25]) (.cond (.t 25) (.seq (.region [⟨some 4, none, .mv (.c (.d true (.bool false)))⟩] [4]) (.ret)) (.skip)))) (.region [⟨some 15, none, .mv (.t 5)⟩, ⟨some 16, none, .bin .add (.t 15) (.c (.d true (.int .i64 1)))⟩, ⟨some 5, none, .mv (.t 16)⟩] [0, 1, 5])))))) (.seq (.region [⟨some 4, none, .mv (.c (.d true (.bool true)))⟩] [4]) (.ret))))
theorem ok7 : FnOk Tryd.prog Tryd.f7 26 keep7 ac7 [.t 4] := by
  refine ⟨?_, ?_, ?_, ?_, ?_⟩ <;> kernel_rfl

/-! laws.markStringS -/
def keep8 : Nat → List Nat
  | 0 => [0, 1]
  | 1 => [0, 1, 5]
  | 2 => [0, 1, 5, 9]
  | 3 => [0, 1, 5]
  | 4 => [0, 1, 5]
  | 5 => [0, 1, 5]
  | 6 => [4]
  | _ => []
def ac8 : AC := .seq (.region [⟨some 4, none, .mv (.c (.d true (.int .i64 0)))⟩] [0, 1]) (.seq (.seq (.region [⟨some 5, none, .mv (.c (.d true (.int .i64 0)))⟩] [0, 1, 5]) (.block 0 (.loop (.seq (.seq (.region [⟨some 6, none, .mv (.t 5)⟩, ⟨some 7, none, .mv (.t 0)⟩, ⟨some 8, none, .len (.t 7)⟩, ⟨some 9, none, .bin .lss (.t 6) (.t 8)⟩] [0, 1, 5, 9]) (.cond (.t 9) (.skip) (.exit 0))) (.seq (.block 1 (.seq (.region [⟨some 12, none, .mv (.t 0)⟩, ⟨some 13, none, .mv (.t 5)⟩, ⟨some 14, none, .mv (.t 1)⟩, ⟨some 15, none, .call (.c (.fn 13 [])) [.t 14]⟩, ⟨some 16, none, .ia 1 (.t 12) (.t 13)⟩, ⟨none, none, .st 1 (.t 16) (.t 15)⟩] [0, 1, 5]) (.region [⟨some 17, none, .mv (.t 1)⟩, ⟨some 18, none, .bin .add (.t 17) (.c (.d true (.int .i64 1)))⟩, ⟨some 1, none, .mv (.t 18)⟩] [0, 1, 5]))) (.region [⟨some 10, none, .mv (.t 5)⟩, ⟨some 11, none, .bin .add (.t 10) (.c (.d true (.int .i64 1)))⟩, ⟨some 5, none, .mv (.t 11)⟩] [0, 1, 5])))))) (.seq (.region [⟨some 19, none, .mv (.t 1)⟩, ⟨some 4, none, .mv (.t 19)⟩] [4]) (.ret)))
theorem ok8 : FnOk Tryd.prog Tryd.f8 20 keep8 ac8 [.t 4] := by
  refine ⟨?_, ?_, ?_, ?_, ?_⟩ <;> kernel_rfl

/-! laws.heldStringS -/
def keep9 : Nat → List Nat
  | 0 => [0, 1]
  | 1 => [0, 1, 5]
  | 2 => [0, 1, 5, 9]
  | 3 => [0, 1, 5]
  | 4 => [0, 1, 5, 18]
  | 5 => [4]
  | 6 => [0, 1, 5]
  | 7 => [4]
  | _ => []
def ac9 : AC := .seq (.region [⟨some 4, none, .mv (.c (.d true (.int .i64 0)))⟩] [0, 1]) (.seq (.seq (.region [⟨some 5, none, .mv (.c (.d true (.int .i64 0)))⟩] [0, 1, 5]) (.block 0 (.loop (.seq (.seq (.region [⟨some 6, none, .mv (.t 5)⟩, ⟨some 7, none, .mv (.t 0)⟩, ⟨some 8, none, .len (.t 7)⟩, ⟨some 9, none, .bin .lss (.t 6) (.t 8)⟩] [0, 1, 5, 9]) (.cond (.t 9) (.skip) (.exit 0))) (.seq (.block 1 (.seq (.seq (.draw [⟨some 12, none, .mv (.t 0)⟩, ⟨some 13, none, .mv (.t 5)⟩, ⟨some 14, none, .ia 1 (.t 12) (.t 13)⟩, ⟨some 15, none, .ld none (.t 14)⟩, ⟨some 16, none, .mv (.t 1)⟩, ⟨some 17, none, .call (.c (.fn 13 [])) [.t 16]⟩, ⟨some 18, none, .bin .neq (.t 15) (.t 17)⟩] [0, 1, 5, 18]) (.cond (.t 18) (.seq (.region [⟨some 4, none, .mv (.c (.d true (.int .i64 (-1))))⟩] [4]) (.ret)) (.skip))) (.region [⟨some 19, none, .mv (.t 1)⟩, ⟨some 20, none, .bin .add (.t 19) (.c (.d true (.int .i64 1)))⟩, ⟨some 1, none, .mv (.t 20)⟩] [0, 1, 5]))) (.region [⟨some 10, none, .mv (.t 5)⟩, ⟨some 11, none, .bin .add (.t 10) (.c (.d true (.int .i64 1)))⟩, ⟨some 5, none, .mv (.t 11)⟩] [0, 1, 5])))))) (.seq (.region [⟨some 21, none, .mv (.t 1)⟩, ⟨some 4, none, .mv (.t 21)⟩] [4]) (.ret)))
theorem ok9 : FnOk Tryd.prog Tryd.f9 22 keep9 ac9 [.t 4] := by
  refine ⟨?_, ?_, ?_, ?_, ?_⟩ <;> kernel_rfl

/-! spec.HostOk -/
def keep10 : Nat → List Nat
  | 0 => [0]
  | 1 => [2]
  | _ => []
def ac10 : AC := .seq (.region [⟨some 2, none, .mv (.c (.d true (.bool false)))⟩] [0]) (.seq (.region [⟨some 3, none, .mv (.t 0)⟩, ⟨some 4, none, .call (.c (.fn 14 [])) [.t 3, .c (.d true (.int .i64 2))]⟩, ⟨some 2, none, .mv (.t 4)⟩] [2]) (.ret))
theorem ok10 : FnOk Tryd.prog Tryd.f10 5 keep10 ac10 [.t 2] := by
  refine ⟨?_, ?_, ?_, ?_, ?_⟩ <;> kernel_rfl

/-! impl.HostOk -/
def keep11 : Nat → List Nat
  | 0 => [0]
  | 1 => [2]
  | _ => []
def ac11 : AC := .seq (.region [⟨some 2, none, .mv (.c (.d true (.bool false)))⟩] [0]) (.seq (.region [⟨some 3, none, .mv (.t 0)⟩, ⟨some 4, none, .call (.c (.fn 15 [])) [.t 3, .c (.d true (.int .i64 2))]⟩, ⟨some 2, none, .mv (.t 4)⟩] [2]) (.ret))
theorem ok11 : FnOk Tryd.prog Tryd.f11 5 keep11 ac11 [.t 2] := by
  refine ⟨?_, ?_, ?_, ?_, ?_⟩ <;> kernel_rfl

/-! laws.markText -/
def keep13 : Nat → List Nat
  | 0 => [0]
  | 1 => [0, 5]
  | 2 => [2]
  | 3 => [0, 3]
  | 4 => [0, 3, 7]
  | 5 => [0, 3]
  | 6 => [0, 3]
  | 7 => [2]
  | _ => []
def ac13 : AC := .seq (.region [⟨some 2, none, .mv (.c (.d true (.str ⟨#[]⟩)))⟩] [0]) (.seq (.seq (.region [⟨some 4, none, .mv (.t 0)⟩, ⟨some 5, none, .bin .leq (.t 4) (.c (.d true (.int .i64 0)))⟩] [0, 5]) (.cond (.t 5) (.seq (.region [⟨some 2, none, .mv (.c (.d true (.str ⟨#[109, 48]⟩)))⟩] [2]) (.ret)) (.skip))) (.seq (.region [⟨some 3, none, .mv (.c (.d true (.str ⟨#[]⟩)))⟩] [0, 3]) (.seq (.block 0 (.loop (.seq (.seq (.region [⟨some 6, none, .mv (.t 0)⟩, ⟨some 7, none, .bin .gtr (.t 6) (.c (.d true (.int .i64 0)))⟩] [0, 3, 7]) (.cond (.t 7) (.skip) (.exit 0))) (.block 1 (.seq (.region [⟨some 8, none, .mv (.t 0)⟩, ⟨some 9, none, .bin .rem (.t 8) (.c (.d true (.int .i64 10)))⟩, ⟨some 10, none, .bin .add (.c (.d true (.int .i64 48))) (.t 9)⟩, ⟨some 11, none, .cvi .u8 (.t 10)⟩, ⟨some 12, none, .bs 5 1 [.t 11]⟩, ⟨some 13, none, .bstr (.t 12)⟩, ⟨some 14, none, .mv (.t 3)⟩, ⟨some 15, none, .bin .add (.t 13) (.t 14)⟩, ⟨some 3, none, .mv (.t 15)⟩] [0, 3]) (.region [⟨some 16, none, .mv (.t 0)⟩, ⟨some 17, none, .bin .quo (.t 16) (.c (.d true (.int .i64 10)))⟩, ⟨some 0, none, .mv (.t 17)⟩] [0, 3])))))) (.seq (.region [⟨some 18, none, .mv (.t 3)⟩, ⟨some 19, none, .bin .add (.c (.d true (.str ⟨#[109]⟩))) (.t 18)⟩, ⟨some 2, none, .mv (.t 19)⟩] [2]) (.ret)))))
theorem ok13 : FnOk Tryd.prog Tryd.f13 20 keep13 ac13 [.t 2] := by
  refine ⟨?_, ?_, ?_, ?_, ?_⟩ <;> kernel_rfl

/-! spec.l5Labels -/
def keep14 : Nat → List Nat
  | 0 => [0, 1]
  | 1 => [0, 1, 5]
  | 2 => [0, 1, 5, 6]
  | 3 => [0, 1, 5, 6, 12]
  | 4 => [0, 1, 5, 6]
  | 5 => [0, 1, 5, 6, 20]
  | 6 => [4]
  | 7 => [4]
  | _ => []
def ac14 : AC := .seq (.region [⟨some 4, none, .mv (.c (.d true (.bool false)))⟩] [0, 1]) (.seq (.region [⟨some 7, none, .mv (.t 0)⟩, ⟨some 8, none, .call (.c (.fn 5 [])) [.t 7]⟩, ⟨some 5, none, .mv (.t 8)⟩] [0, 1, 5]) (.seq (.seq (.region [⟨some 6, none, .mv (.c (.d true (.int .i64 0)))⟩] [0, 1, 5, 6]) (.block 0 (.loop (.seq (.seq (.region [⟨some 9, none, .mv (.t 6)⟩, ⟨some 10, none, .mv (.t 5)⟩, ⟨some 11, none, .len (.t 10)⟩, ⟨some 12, none, .bin .lss (.t 9) (.t 11)⟩] [0, 1, 5, 6, 12]) (.cond (.t 12) (.skip) (.exit 0))) (.seq (.block 1 (.seq (.region [⟨some 15, none, .mv (.t 5)⟩, ⟨some 16, none, .mv (.t 6)⟩, ⟨some 17, none, .ia 1 (.t 15) (.t 16)⟩, ⟨some 18, none, .ld none (.t 17)⟩, ⟨some 19, none, .call (.c (.fn 17 [])) [.t 18]⟩, ⟨some 20, none, .not (.t 19)⟩] [0, 1, 5, 6, 20]) (.cond (.t 20) (.seq (.region [⟨some 4, none, .mv (.c (.d true (.bool false)))⟩] [4]) (.ret)) (.skip)))) (.region [⟨some 13, none, .mv (.t 6)⟩, ⟨some 14, none, .bin .add (.t 13) (.c (.d true (.int .i64 1)))⟩, ⟨some 6, none, .mv (.t 14)⟩] [0, 1, 5, 6])))))) (.seq (.region [⟨some 21, none, .mv (.t 5)⟩, ⟨some 22, none, .len (.t 21)⟩, ⟨some 23, none, .mv (.t 1)⟩, ⟨some 24, none, .bin .geq (.t 22) (.t 23)⟩, ⟨some 25, none, .mv (.t 24)⟩, ⟨some 26, some (25, true), .mv (.t 0)⟩, ⟨some 27, some (25, true), .slen (.t 26)⟩, ⟨some 28, some (25, true), .bin .leq (.t 27) (.c (.d true (.int .i64 60)))⟩, ⟨some 29, none, .pick (.t 25) (.t 28) (.c (.d true (.bool false)))⟩, ⟨some 4, none, .mv (.t 29)⟩] [4]) (.ret))))
theorem ok14 : FnOk Tryd.prog Tryd.f14 30 keep14 ac14 [.t 4] := by
  refine ⟨?_, ?_, ?_, ?_, ?_⟩ <;> kernel_rfl

/-! impl.labelsOk -/
def keep15 : Nat → List Nat
  | 0 => [0, 1]
  | 1 => [0, 1, 5]
  | 2 => [4]
  | _ => []
def ac15 : AC := .seq (.region [⟨some 4, none, .mv (.c (.d true (.bool false)))⟩] [0, 1]) (.seq (.region [⟨some 6, none, .mv (.t 0)⟩, ⟨some 7, none, .call (.c (.fn 6 [])) [.t 6]⟩, ⟨some 5, none, .mv (.t 7)⟩] [0, 1, 5]) (.seq (.region [⟨some 8, none, .mv (.t 0)⟩, ⟨some 9, none, .slen (.t 8)⟩, ⟨some 10, none, .bin .leq (.t 9) (.c (.d true (.int .i64 60)))⟩, ⟨some 11, none, .mv (.t 10)⟩, ⟨some 12, some (11, true), .mv (.t 5)⟩, ⟨some 13, some (11, true), .len (.t 12)⟩, ⟨some 14, some (11, true), .mv (.t 1)⟩, ⟨some 15, some (11, true), .bin .geq (.t 13) (.t 14)⟩, ⟨some 16, none, .pick (.t 11) (.t 15) (.c (.d true (.bool false)))⟩, ⟨some 17, none, .mv (.t 16)⟩, ⟨some 18, some (17, true), .mv (.t 5)⟩, ⟨some 19, some (17, true), .call (.c (.fn 18 [])) [.t 18, .c (.fn 19 [])]⟩, ⟨some 20, some (17, true), .not (.t 19)⟩, ⟨some 21, none, .pick (.t 17) (.t 20) (.c (.d true (.bool false)))⟩, ⟨some 4, none, .mv (.t 21)⟩] [4]) (.ret)))
theorem ok15 : FnOk Tryd.prog Tryd.f15 22 keep15 ac15 [.t 4] := by
  refine ⟨?_, ?_, ?_, ?_, ?_⟩ <;> kernel_rfl

/-! spec.l5Label -/
def keep17 : Nat → List Nat
  | 0 => [0]
  | 1 => [0, 3]
  | 2 => [0, 3, 8]
  | 3 => [0, 3]
  | 4 => [0, 3, 4]
  | 5 => [0, 3, 43]
  | 6 => [2]
  | 7 => [2]
  | _ => []
def ac17 : AC := .seq (.region [⟨some 2, none, .mv (.c (.d true (.bool false)))⟩] [0]) (.seq (.seq (.region [⟨some 3, none, .mv (.c (.d true (.int .i64 0)))⟩] [0, 3]) (.block 0 (.loop (.seq (.seq (.region [⟨some 5, none, .mv (.t 3)⟩, ⟨some 6, none, .mv (.t 0)⟩, ⟨some 7, none, .slen (.t 6)⟩, ⟨some 8, none, .bin .lss (.t 5) (.t 7)⟩] [0, 3, 8]) (.cond (.t 8) (.skip) (.exit 0))) (.seq (.block 1 (.seq (.region [⟨some 11, none, .mv (.t 0)⟩, ⟨some 12, none, .mv (.t 3)⟩, ⟨some 13, none, .ix (.t 11) (.t 12)⟩, ⟨some 4, none, .mv (.t 13)⟩] [0, 3, 4]) (.seq (.region [⟨some 14, none, .mv (.t 4)⟩, ⟨some 15, none, .bin .geq (.t 14) (.c (.d true (.int .u8 97)))⟩, ⟨some 16, none, .mv (.t 15)⟩, ⟨some 17, some (16, true), .mv (.t 4)⟩, ⟨some 18, some (16, true), .bin .leq (.t 17) (.c (.d true (.int .u8 122)))⟩, ⟨some 19, none, .pick (.t 16) (.t 18) (.c (.d true (.bool false)))⟩, ⟨some 20, none, .mv (.t 19)⟩, ⟨some 21, some (20, false), .mv (.t 4)⟩, ⟨some 22, some (20, false), .bin .geq (.t 21) (.c (.d true (.int .u8 48)))⟩, ⟨some 23, some (20, false), .mv (.t 22)⟩, ⟨some 24, some (23, true), .mv (.t 4)⟩, ⟨some 25, some (23, true), .bin .leq (.t 24) (.c (.d true (.int .u8 57)))⟩, ⟨some 26, some (20, false), .pick (.t 23) (.t 25) (.c (.d true (.bool false)))⟩, ⟨some 27, none, .pick (.t 20) (.c (.d true (.bool true))) (.t 26)⟩, ⟨some 28, none, .mv (.t 27)⟩, ⟨some 29, some (28, false), .mv (.t 4)⟩, ⟨some 30, some (28, false), .bin .eql (.t 29) (.c (.d true (.int .u8 45)))⟩, ⟨some 31, some (28, false), .mv (.t 30)⟩, ⟨some 32, some (31, true), .mv (.t 3)⟩, ⟨some 33, some (31, true), .bin .gtr (.t 32) (.c (.d true (.int .i64 0)))⟩, ⟨some 34, some (28, false), .pick (.t 31) (.t 33) (.c (.d true (.bool false)))⟩, ⟨some 35, some (28, false), .mv (.t 34)⟩, ⟨some 36, some (35, true), .mv (.t 3)⟩, ⟨some 37, some (35, true), .mv (.t 0)⟩, ⟨some 38, some (35, true), .slen (.t 37)⟩, ⟨some 39, some (35, true), .bin .sub (.t 38) (.c (.d true (.int .i64 1)))⟩, ⟨some 40, some (35, true), .bin .lss (.t 36) (.t 39)⟩, ⟨some 41, some (28, false), .pick (.t 35) (.t 40) (.c (.d true (.bool false)))⟩, ⟨some 42, none, .pick (.t 28) (.c (.d true (.bool true))) (.t 41)⟩, ⟨some 43, none, .not (.t 42)⟩] [0, 3, 43]) (.cond (.t 43) (.seq (.region [⟨some 2, none, .mv (.c (.d true (.bool false)))⟩] [2]) (.ret)) (.skip))))) (.region [⟨some 9, none, .mv (.t 3)⟩, ⟨some 10, none, .bin .add (.t 9) (.c (.d true (.int .i64 1)))⟩, ⟨some 3, none, .mv (.t 10)⟩] [0, 3])))))) (.seq (.region [⟨some 44, none, .mv (.t 0)⟩, ⟨some 45, none, .slen (.t 44)⟩, ⟨some 46, none, .call (.c (.fn 24 [])) [.t 45, .c (.d true (.int .i64 1)), .c (.d true (.int .i64 10))]⟩, ⟨some 2, none, .mv (.t 46)⟩] [2]) (.ret)))
theorem ok17 : FnOk Tryd.prog Tryd.f17 47 keep17 ac17 [.t 2] := by
  refine ⟨?_, ?_, ?_, ?_, ?_⟩ <;> kernel_rfl

/-! slices.ContainsFunc[[]string,string] -/
def keep18 : Nat → List Nat
  | 0 => [0, 1]
  | 1 => [4]
  | _ => []
def ac18 : AC := .seq (.region [⟨some 4, none, .mv (.c (.d true (.bool false)))⟩] [0, 1]) (.seq (.region [⟨some 5, none, .mv (.t 0)⟩, ⟨some 6, none, .mv (.t 1)⟩, ⟨some 7, none, .call (.c (.fn 25 [])) [.t 5, .t 6]⟩, ⟨some 8, none, .bin .geq (.t 7) (.c (.d true (.int .i64 0)))⟩, ⟨some 4, none, .mv (.t 8)⟩] [4]) (.ret))
theorem ok18 : FnOk Tryd.prog Tryd.f18 9 keep18 ac18 [.t 4] := by
  refine ⟨?_, ?_, ?_, ?_, ?_⟩ <;> kernel_rfl

/-! impl.labelsOk$1 -/
def keep19 : Nat → List Nat
  | 0 => [0]
  | 1 => [2]
  | _ => []
def ac19 : AC := .seq (.region [⟨some 2, none, .mv (.c (.d true (.bool false)))⟩] [0]) (.seq (.region [⟨some 3, none, .mv (.t 0)⟩, ⟨some 4, none, .call (.c (.fn 20 [])) [.t 3]⟩, ⟨some 5, none, .not (.t 4)⟩, ⟨some 2, none, .mv (.t 5)⟩] [2]) (.ret))
theorem ok19 : FnOk Tryd.prog Tryd.f19 6 keep19 ac19 [.t 2] := by
  refine ⟨?_, ?_, ?_, ?_, ?_⟩ <;> kernel_rfl

/-! impl.labelOk -/
def keep20 : Nat → List Nat
  | 0 => [0]
  | 1 => [0, 6, 7]
  | 2 => [0, 6, 7, 8]
  | 3 => [0, 3, 6, 7]
  | 4 => [0, 3, 4, 6, 7]
  | 5 => [0, 6, 7, 41]
  | 6 => [2]
  | 7 => [0, 6, 7]
  | 8 => [2]
  | _ => []
def ac20 : AC := .seq (.region [⟨some 2, none, .mv (.c (.d true (.bool false)))⟩] [0]) (.seq (.seq (.region [⟨some 5, none, .mv (.t 0)⟩, ⟨some 6, none, .slen (.t 5)⟩, ⟨some 7, none, .mv (.c (.d true (.int .i64 0)))⟩] [0, 6, 7]) (.block 0 (.loop (.seq (.region [⟨some 8, none, .bin .lss (.t 7) (.t 6)⟩] [0, 6, 7, 8]) (.seq (.cond (.t 8) (.skip) (.exit 0)) (.seq (.block 1 (.seq (.region [⟨some 9, none, .mv (.t 7)⟩, ⟨some 3, none, .mv (.t 9)⟩] [0, 3, 6, 7]) (.seq (.region [⟨some 10, none, .mv (.t 0)⟩, ⟨some 11, none, .mv (.t 3)⟩, ⟨some 12, none, .ix (.t 10) (.t 11)⟩, ⟨some 4, none, .mv (.t 12)⟩] [0, 3, 4, 6, 7]) (.seq (.region [⟨some 13, none, .mv (.t 4)⟩, ⟨some 14, none, .bin .lss (.t 13) (.c (.d true (.int .u8 97)))⟩, ⟨some 15, none, .mv (.t 14)⟩, ⟨some 16, some (15, false), .mv (.t 4)⟩, ⟨some 17, some (15, false), .bin .gtr (.t 16) (.c (.d true (.int .u8 122)))⟩, ⟨some 18, none, .pick (.t 15) (.c (.d true (.bool true))) (.t 17)⟩, ⟨some 19, none, .mv (.t 18)⟩, ⟨some 20, some (19, true), .mv (.t 4)⟩, ⟨some 21, some (19, true), .bin .lss (.t 20) (.c (.d true (.int .u8 48)))⟩, ⟨some 22, some (19, true), .mv (.t 21)⟩, ⟨some 23, some (22, false), .mv (.t 4)⟩, ⟨some 24, some (22, false), .bin .gtr (.t 23) (.c (.d true (.int .u8 57)))⟩, ⟨some 25, some (19, true), .pick (.t 22) (.c (.d true (.bool true))) (.t 24)⟩, ⟨some 26, none, .pick (.t 19) (.t 25) (.c (.d true (.bool false)))⟩, ⟨some 27, none, .mv (.t 26)⟩, ⟨some 28, some (27, true), .mv (.t 4)⟩, ⟨some 29, some (27, true), .bin .neq (.t 28) (.c (.d true (.int .u8 45)))⟩, ⟨some 30, some (27, true), .mv (.t 29)⟩, ⟨some 31, some (30, false), .mv (.t 3)⟩, ⟨some 32, some (30, false), .bin .eql (.t 31) (.c (.d true (.int .i64 0)))⟩, ⟨some 33, some (27, true), .pick (.t 30) (.c (.d true (.bool true))) (.t 32)⟩, ⟨some 34, some (27, true), .mv (.t 33)⟩, ⟨some 35, some (34, false), .mv (.t 3)⟩, ⟨some 36, some (34, false), .mv (.t 0)⟩, ⟨some 37, some (34, false), .slen (.t 36)⟩, ⟨some 38, some (34, false), .bin .sub (.t 37) (.c (.d true (.int .i64 1)))⟩, ⟨some 39, some (34, false), .bin .eql (.t 35) (.t 38)⟩, ⟨some 40, some (27, true), .pick (.t 34) (.c (.d true (.bool true))) (.t 39)⟩, ⟨some 41, none, .pick (.t 27) (.t 40) (.c (.d true (.bool false)))⟩] [0, 6, 7, 41]) (.cond (.t 41) (.seq (.region [⟨some 2, none, .mv (.c (.d true (.bool false)))⟩] [2]) (.ret)) (.skip)))))) (.region [⟨some 42, none, .bin .add (.t 7) (.c (.d true (.int .i64 1)))⟩, ⟨some 7, none, .mv (.t 42)⟩] [0, 6, 7]))))))) (.seq (.region [⟨some 43, none, .mv (.t 0)⟩, ⟨some 44, none, .slen (.t 43)⟩, ⟨some 45, none, .call (.c (.fn 26 [])) [.t 44, .c (.d true (.int .i64 1)), .c (.d true (.int .i64 10))]⟩, ⟨some 2, none, .mv (.t 45)⟩] [2]) (.ret)))
theorem ok20 : FnOk Tryd.prog Tryd.f20 46 keep20 ac20 [.t 2] := by
  refine ⟨?_, ?_, ?_, ?_, ?_⟩ <;> kernel_rfl

/-! spec.l1In -/
def keep24 : Nat → List Nat
  | 0 => [0, 1, 2]
  | 1 => [6]
  | _ => []
def ac24 : AC := .seq (.region [⟨some 6, none, .mv (.c (.d true (.bool false)))⟩] [0, 1, 2]) (.seq (.region [⟨some 7, none, .mv (.t 0)⟩, ⟨some 8, none, .mv (.t 1)⟩, ⟨some 9, none, .bin .geq (.t 7) (.t 8)⟩, ⟨some 10, none, .mv (.t 9)⟩, ⟨some 11, some (10, true), .mv (.t 0)⟩, ⟨some 12, some (10, true), .mv (.t 2)⟩, ⟨some 13, some (10, true), .bin .leq (.t 11) (.t 12)⟩, ⟨some 14, none, .pick (.t 10) (.t 13) (.c (.d true (.bool false)))⟩, ⟨some 6, none, .mv (.t 14)⟩] [6]) (.ret))
theorem ok24 : FnOk Tryd.prog Tryd.f24 15 keep24 ac24 [.t 6] := by
  refine ⟨?_, ?_, ?_, ?_, ?_⟩ <;> kernel_rfl

/-! slices.IndexFunc[[]string,string] -/
def keep25 : Nat → List Nat
  | 0 => [0, 1]
  | 1 => [0, 1, 7, 8]
  | 2 => [0, 1, 7, 8, 9]
  | 3 => [0, 1, 5, 7, 8]
  | 4 => [0, 1, 5, 7, 8, 16]
  | 5 => [4]
  | 6 => [0, 1, 7, 8]
  | 7 => [4]
  | _ => []
def ac25 : AC := .seq (.region [⟨some 4, none, .mv (.c (.d true (.int .i64 0)))⟩] [0, 1]) (.seq (.seq (.region [⟨some 6, none, .mv (.t 0)⟩, ⟨some 7, none, .len (.t 6)⟩, ⟨some 8, none, .mv (.c (.d true (.int .i64 0)))⟩] [0, 1, 7, 8]) (.block 0 (.loop (.seq (.region [⟨some 9, none, .bin .lss (.t 8) (.t 7)⟩] [0, 1, 7, 8, 9]) (.seq (.cond (.t 9) (.skip) (.exit 0)) (.seq (.block 1 (.seq (.region [⟨some 10, none, .mv (.t 8)⟩, ⟨some 5, none, .mv (.t 10)⟩] [0, 1, 5, 7, 8]) (.seq (.region [⟨some 11, none, .mv (.t 1)⟩, ⟨some 12, none, .mv (.t 0)⟩, ⟨some 13, none, .mv (.t 5)⟩, ⟨some 14, none, .ia 1 (.t 12) (.t 13)⟩, ⟨some 15, none, .ld none (.t 14)⟩, ⟨some 16, none, .call (.t 11) [.t 15]⟩] [0, 1, 5, 7, 8, 16]) (.cond (.t 16) (.seq (.region [⟨some 17, none, .mv (.t 5)⟩, ⟨some 4, none, .mv (.t 17)⟩] [4]) (.ret)) (.skip))))) (.region [⟨some 18, none, .bin .add (.t 8) (.c (.d true (.int .i64 1)))⟩, ⟨some 8, none, .mv (.t 18)⟩] [0, 1, 7, 8]))))))) (.seq (.region [⟨some 4, none, .mv (.c (.d true (.int .i64 (-1))))⟩] [4]) (.ret)))
theorem ok25 : FnOk Tryd.prog Tryd.f25 19 keep25 ac25 [.t 4] := by
  refine ⟨?_, ?_, ?_, ?_, ?_⟩ <;> kernel_rfl

/-! impl.in -/
def keep26 : Nat → List Nat
  | 0 => [0, 1, 2]
  | 1 => [6]
  | _ => []
def ac26 : AC := .seq (.region [⟨some 6, none, .mv (.c (.d true (.bool false)))⟩] [0, 1, 2]) (.seq (.region [⟨some 7, none, .mv (.t 0)⟩, ⟨some 8, none, .mv (.t 1)⟩, ⟨some 9, none, .bin .geq (.t 7) (.t 8)⟩, ⟨some 10, none, .mv (.t 9)⟩, ⟨some 11, some (10, true), .mv (.t 0)⟩, ⟨some 12, some (10, true), .mv (.t 2)⟩, ⟨some 13, some (10, true), .bin .leq (.t 11) (.t 12)⟩, ⟨some 14, none, .pick (.t 10) (.t 13) (.c (.d true (.bool false)))⟩, ⟨some 6, none, .mv (.t 14)⟩] [6]) (.ret))
theorem ok26 : FnOk Tryd.prog Tryd.f26 15 keep26 ac26 [.t 6] := by
  refine ⟨?_, ?_, ?_, ?_, ?_⟩ <;> kernel_rfl

end Go.Proofs.YtlddklhfckdniaaDoor
