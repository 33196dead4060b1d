/- Functions, as code over abstract states. -/
import Derived.Test.YtlddcimpdkcgeaaS12
import Derived.Test.YtlddcimpdkcgeaaProg
set_option linter.unusedVariables false
set_option linter.unusedSimpArgs false
set_option maxRecDepth 100000
namespace Go.Proofs.Ytlddcimpdkcgeaa
open Go.RowKit Sym

theorem mo : Try.prog.follows .mixedOrders = true := by kernel_rfl
/-! laws.FnMaking: too many orders -/

/-! laws.FnAgrees -/
/-! laws.FnKnows -/
def keep5 : Nat → List Nat
  | 0 => [0]
  | 1 => [0, 13]
  | 2 => [2]
  | 3 => [0, 3, 4]
  | 4 => [0, 3, 4, 5]
  | 5 => [0, 3, 4, 5, 6]
  | 6 => [0, 3, 4, 5, 6, 7]
  | 7 => [3, 4, 5, 6, 7, 8, 9]
  | 8 => [3, 4, 5, 6, 7, 51]
  | 9 => [2]
  | 10 => [3, 4, 5, 6, 61]
  | 11 => [2]
  | 12 => [3, 4, 5, 6, 10]
  | 13 => [3, 4, 5, 6, 10, 65]
  | 14 => [3, 4, 5, 6, 10]
  | 15 => [3, 4, 5, 6, 10, 81]
  | 16 => [2]
  | 17 => [4, 5, 11]
  | 18 => [2]
  | 1000008 => [1]
  | _ => []
def ac5 : AC := .seq (.region [⟨some 2, none, .mv (.c (.d true (.bool false)))⟩] [0]) (.seq (.seq (.region [⟨some 12, none, .mv (.t 0)⟩, ⟨some 13, none, .call (.c (.fn 6 [])) [.t 12]⟩] [0, 13]) (.cond (.t 13) (.seq (.region [⟨some 2, none, .mv (.c (.d true (.bool true)))⟩] [2]) (.ret)) (.skip))) (.seq (.region [⟨some 15, none, .mv (.t 0)⟩, ⟨some 16, none, .call (.c (.fn 25 [])) [.t 15]⟩, ⟨some 14, none, .mv (.t 16)⟩, ⟨some 17, none, .ext (.t 14) 0⟩, ⟨some 18, none, .ext (.t 14) 1⟩, ⟨some 4, none, .alloc [.d true (.int .i64 0), .d true (.int .i64 0), .d true (.str ⟨#[]⟩), .nil]⟩, ⟨some 3, none, .mv (.t 17)⟩, ⟨none, none, .st 4 (.t 4) (.t 18)⟩] [0, 3, 4]) (.seq (.region [⟨some 19, none, .mv (.t 3)⟩, ⟨some 20, none, .ld (some 4) (.t 4)⟩, ⟨some 21, none, .call (.c (.fn 26 [])) [.t 19, .t 20]⟩, ⟨some 5, none, .mv (.t 21)⟩] [0, 3, 4, 5]) (.seq (.region [⟨some 22, none, .mv (.t 0)⟩, ⟨some 23, none, .call (.c (.fn 27 [])) [.t 22]⟩, ⟨some 6, none, .mv (.t 23)⟩] [0, 3, 4, 5, 6]) (.seq (.region [⟨some 24, none, .mv (.t 6)⟩, ⟨some 25, none, .call (.c (.fn 28 [])) [.t 24]⟩, ⟨some 7, none, .mv (.t 25)⟩] [0, 3, 4, 5, 6, 7]) (.seq (.region [⟨some 27, none, .mv (.t 0)⟩, ⟨some 28, none, .call (.c (.fn 29 [])) [.t 27]⟩, ⟨some 26, none, .mv (.t 28)⟩, ⟨some 29, none, .ext (.t 26) 0⟩, ⟨some 30, none, .ext (.t 26) 1⟩, ⟨some 9, none, .alloc [.d true (.int .i64 0), .d true (.int .i64 0), .d true (.str ⟨#[]⟩), .nil]⟩, ⟨some 8, none, .mv (.t 29)⟩, ⟨none, none, .st 4 (.t 9) (.t 30)⟩] [3, 4, 5, 6, 7, 8, 9]) (.seq (.seq (.tree (.take ⟨some 31, none, .mv (.t 5)⟩ (.take ⟨some 32, none, .mv (.t 3)⟩ (.take ⟨some 33, none, .ld (some 4) (.t 4)⟩ (.br (.cons ⟨some 34, none, .call (.c (.fn 30 [])) [.t 32, .t 33]⟩ (.take ⟨some 35, none, .beq true (.t 31) (.t 34)⟩ (.take ⟨some 36, none, .mv (.t 35)⟩ (.take ⟨some 37, some (36, false), .mv (.t 7)⟩ (.take ⟨some 38, some (36, false), .mv (.t 6)⟩ (.br (.cons ⟨some 39, some (36, false), .call (.c (.fn 32 [])) [.t 38]⟩ (.br (.cons ⟨some 40, some (36, false), .call (.c (.fn 31 [])) [.t 37, .t 39]⟩ (.take ⟨some 41, some (36, false), .not (.t 40)⟩ (.take ⟨some 42, none, .pick (.t 36) (.c (.d true (.bool true))) (.t 41)⟩ (.take ⟨some 43, none, .mv (.t 42)⟩ (.take ⟨some 44, some (43, false), .mv (.t 8)⟩ (.take ⟨some 45, some (43, false), .ld (some 4) (.t 9)⟩ (.take ⟨some 47, some (43, false), .mv (.t 8)⟩ (.take ⟨some 48, some (43, false), .ld (some 4) (.t 9)⟩ (.br (.cons ⟨some 46, some (43, false), .call (.c (.fn 33 [])) [.t 44, .t 45]⟩ (.br (.cons ⟨some 49, some (43, false), .call (.c (.fn 34 [])) [.t 47, .t 48]⟩ (.take ⟨some 50, some (43, false), .beq true (.t 46) (.t 49)⟩ (.take ⟨some 51, none, .pick (.t 43) (.c (.d true (.bool true))) (.t 50)⟩ (.done))) (.nil))) (.nil)))))))))) (.nil))) (.nil))))))) (.nil)))))) [3, 4, 5, 6, 7, 51]) (.cond (.t 51) (.seq (.region [⟨some 2, none, .mv (.c (.d true (.bool false)))⟩] [2]) (.ret)) (.skip))) (.seq (.seq (.region [⟨some 52, none, .mv (.t 7)⟩, ⟨some 53, none, .len (.t 52)⟩, ⟨some 54, none, .bin .lss (.t 53) (.c (.d true (.int .i64 300)))⟩, ⟨some 55, none, .mv (.t 54)⟩, ⟨some 56, some (55, true), .mv (.t 7)⟩, ⟨some 57, some (55, true), .call (.c (.fn 28 [])) [.t 56]⟩, ⟨some 58, some (55, true), .mv (.t 7)⟩, ⟨some 59, some (55, true), .call (.c (.fn 31 [])) [.t 57, .t 58]⟩, ⟨some 60, some (55, true), .not (.t 59)⟩, ⟨some 61, none, .pick (.t 55) (.t 60) (.c (.d true (.bool false)))⟩] [3, 4, 5, 6, 61]) (.cond (.t 61) (.seq (.region [⟨some 2, none, .mv (.c (.d true (.bool false)))⟩] [2]) (.ret)) (.skip))) (.seq (.seq (.region [⟨some 10, none, .mv (.c (.d true (.int .i64 0)))⟩] [3, 4, 5, 6, 10]) (.block 0 (.loop (.seq (.seq (.region [⟨some 62, none, .mv (.t 10)⟩, ⟨some 63, none, .mv (.t 3)⟩, ⟨some 64, none, .len (.t 63)⟩, ⟨some 65, none, .bin .lss (.t 62) (.t 64)⟩] [3, 4, 5, 6, 10, 65]) (.cond (.t 65) (.skip) (.exit 0))) (.seq (.block 1 (.seq (.region [⟨some 68, none, .mv (.t 3)⟩, ⟨some 69, none, .mv (.t 10)⟩, ⟨some 70, none, .ia 4 (.t 68) (.t 69)⟩, ⟨some 71, none, .ld (some 4) (.t 70)⟩, ⟨some 72, none, .call (.c (.fn 20 [])) [.t 71]⟩, ⟨some 73, none, .mv (.t 72)⟩, ⟨some 74, some (73, true), .mv (.t 3)⟩, ⟨some 75, some (73, true), .mv (.t 3)⟩, ⟨some 76, some (73, true), .mv (.t 10)⟩, ⟨some 77, some (73, true), .ia 4 (.t 75) (.t 76)⟩, ⟨some 78, some (73, true), .ld (some 4) (.t 77)⟩, ⟨some 79, some (73, true), .call (.c (.fn 26 [])) [.t 74, .t 78]⟩, ⟨some 80, some (73, true), .not (.t 79)⟩, ⟨some 81, none, .pick (.t 73) (.t 80) (.c (.d true (.bool false)))⟩] [3, 4, 5, 6, 10, 81]) (.cond (.t 81) (.seq (.region [⟨some 2, none, .mv (.c (.d true (.bool false)))⟩] [2]) (.ret)) (.skip)))) (.region [⟨some 66, none, .mv (.t 10)⟩, ⟨some 67, none, .bin .add (.t 66) (.c (.d true (.int .i64 1)))⟩, ⟨some 10, none, .mv (.t 67)⟩] [3, 4, 5, 6, 10])))))) (.seq (.region [⟨some 82, none, .bs 26 4 []⟩, ⟨some 83, none, .mv (.t 3)⟩, ⟨some 84, none, .app 26 4 56 (.t 82) (.t 83)⟩, ⟨some 85, none, .mv (.t 6)⟩, ⟨some 86, none, .app 26 4 56 (.t 84) (.t 85)⟩, ⟨some 11, none, .mv (.t 86)⟩] [4, 5, 11]) (.seq (.region [⟨some 87, none, .mv (.t 5)⟩, ⟨some 88, none, .not (.t 87)⟩, ⟨some 89, none, .mv (.t 88)⟩, ⟨some 90, some (89, false), .mv (.t 11)⟩, ⟨some 91, some (89, false), .call (.c (.fn 28 [])) [.t 90]⟩, ⟨some 92, some (89, false), .len (.t 91)⟩, ⟨some 93, some (89, false), .bin .geq (.t 92) (.c (.d true (.int .i64 300)))⟩, ⟨some 94, none, .pick (.t 89) (.c (.d true (.bool true))) (.t 93)⟩, ⟨some 95, none, .mv (.t 94)⟩, ⟨some 96, some (95, false), .mv (.t 11)⟩, ⟨some 97, some (95, false), .ld (some 4) (.t 4)⟩, ⟨some 98, some (95, false), .call (.c (.fn 26 [])) [.t 96, .t 97]⟩, ⟨some 99, none, .pick (.t 95) (.c (.d true (.bool true))) (.t 98)⟩, ⟨some 2, none, .mv (.t 99)⟩] [2]) (.ret))))))))))))
theorem ok5 : FnOk Try.prog Try.f5 100 keep5 ac5 [.t 2] := by
  refine ⟨?_, ?_, ?_, ?_, ?_⟩ <;> kernel_rfl

/-! laws.big -/
def keep6 : Nat → List Nat
  | 0 => [0]
  | 1 => [2]
  | _ => []
def ac6 : AC := .seq (.region [⟨some 2, none, .mv (.c (.d true (.bool false)))⟩] [0]) (.seq (.region [⟨some 3, none, .mv (.t 0)⟩, ⟨some 4, none, .len (.t 3)⟩, ⟨some 5, none, .bin .gtr (.t 4) (.c (.d true (.int .i64 1048576)))⟩, ⟨some 2, none, .mv (.t 5)⟩] [2]) (.ret))
theorem ok6 : FnOk Try.prog Try.f6 6 keep6 ac6 [.t 2] := by
  refine ⟨?_, ?_, ?_, ?_, ?_⟩ <;> kernel_rfl

/-! spec.DrawPair -/
/-! spec.DrawAtom -/
/-! spec.DrawPub -/
/-! spec.DrawHash -/
/-! impl.Pair -/
/-! impl.Atom -/
/-! impl.Pub -/
/-! impl.Hash -/
/-! impl.Same -/
def keep15 : Nat → List Nat
  | 0 => [2, 3]
  | 1 => [4]
  | _ => []
def ac15 : AC := .seq (.region [⟨some 2, none, .box (.t 0)⟩, ⟨some 3, none, .box (.t 1)⟩, ⟨some 4, none, .mv (.c (.d true (.bool false)))⟩] [2, 3]) (.seq (.region [⟨some 5, none, .fa 0 (.t 2)⟩, ⟨some 6, none, .ld none (.t 5)⟩, ⟨some 7, none, .fa 0 (.t 3)⟩, ⟨some 8, none, .ld none (.t 7)⟩, ⟨some 9, none, .bin .eql (.t 6) (.t 8)⟩, ⟨some 10, none, .mv (.t 9)⟩, ⟨some 11, some (10, true), .fa 1 (.t 2)⟩, ⟨some 12, some (10, true), .ld none (.t 11)⟩, ⟨some 13, some (10, true), .fa 1 (.t 3)⟩, ⟨some 14, some (10, true), .ld none (.t 13)⟩, ⟨some 15, some (10, true), .bin .eql (.t 12) (.t 14)⟩, ⟨some 16, none, .pick (.t 10) (.t 15) (.c (.d true (.bool false)))⟩, ⟨some 17, none, .mv (.t 16)⟩, ⟨some 18, some (17, true), .fa 2 (.t 2)⟩, ⟨some 19, some (17, true), .ld none (.t 18)⟩, ⟨some 20, some (17, true), .fa 2 (.t 3)⟩, ⟨some 21, some (17, true), .ld none (.t 20)⟩, ⟨some 22, some (17, true), .bin .eql (.t 19) (.t 21)⟩, ⟨some 23, none, .pick (.t 17) (.t 22) (.c (.d true (.bool false)))⟩, ⟨some 24, none, .mv (.t 23)⟩, ⟨some 25, some (24, true), .fa 3 (.t 2)⟩, ⟨some 26, some (24, true), .ld none (.t 25)⟩, ⟨some 27, some (24, true), .fa 3 (.t 3)⟩, ⟨some 28, some (24, true), .ld none (.t 27)⟩, ⟨some 29, some (24, true), .call (.c (.fn 40 [])) [.t 26, .t 28, .c (.fn 15 [])]⟩, ⟨some 30, none, .pick (.t 24) (.t 29) (.c (.d true (.bool false)))⟩, ⟨some 4, none, .mv (.t 30)⟩] [4]) (.ret))
theorem ok15 : FnOk Try.prog Try.f15 31 keep15 ac15 [.t 4] := by
  refine ⟨?_, ?_, ?_, ?_, ?_⟩ <;> kernel_rfl

/-! spec.Pair -/
def keep16 : Nat → List Nat
  | 0 => [2, 3, 4]
  | 1 => [4]
  | _ => []
def ac16 : AC := .seq (.region [⟨some 2, none, .box (.t 0)⟩, ⟨some 3, none, .box (.t 1)⟩, ⟨some 4, none, .alloc [.d true (.int .i64 0), .d true (.int .i64 0), .d true (.str ⟨#[]⟩), .nil]⟩] [2, 3, 4]) (.seq (.region [⟨some 5, none, .ld (some 4) (.t 2)⟩, ⟨some 6, none, .ld (some 4) (.t 3)⟩, ⟨some 7, none, .call (.c (.fn 41 [])) [.c (.d true (.int .i64 3)), .t 5, .t 6]⟩, ⟨none, none, .st 4 (.t 4) (.t 7)⟩] [4]) (.ret))
theorem ok16 : FnOk Try.prog Try.f16 8 keep16 ac16 [.c 4 (some 4)] := by
  refine ⟨?_, ?_, ?_, ?_, ?_⟩ <;> kernel_rfl

/-! spec.Atom -/
/-! spec.Pub -/
def keep18 : Nat → List Nat
  | 0 => [1, 2]
  | 1 => [2]
  | _ => []
def ac18 : AC := .seq (.region [⟨some 1, none, .box (.t 0)⟩, ⟨some 2, none, .alloc [.d true (.int .i64 0), .d true (.int .i64 0), .d true (.str ⟨#[]⟩), .nil]⟩] [1, 2]) (.seq (.region [⟨some 3, none, .ld (some 4) (.t 1)⟩, ⟨some 4, none, .call (.c (.fn 43 [])) [.t 3]⟩, ⟨some 5, none, .bs 26 4 [.t 4]⟩, ⟨some 6, none, .bld [.d true (.int .i64 0), .d true (.int .i64 0), .d true (.str ⟨#[]⟩), .nil] [(0, 1, .c (.d true (.int .i64 4))), (3, 1, .t 5)]⟩, ⟨some 7, none, .call (.c (.fn 42 [])) [.t 6]⟩, ⟨none, none, .st 4 (.t 2) (.t 7)⟩] [2]) (.ret))
theorem ok18 : FnOk Try.prog Try.f18 8 keep18 ac18 [.c 2 (some 4)] := by
  refine ⟨?_, ?_, ?_, ?_, ?_⟩ <;> kernel_rfl

/-! spec.Hash -/
def keep19 : Nat → List Nat
  | 0 => [1, 2]
  | 1 => [2]
  | _ => []
def ac19 : AC := .seq (.region [⟨some 1, none, .box (.t 0)⟩, ⟨some 2, none, .alloc [.d true (.int .i64 0), .d true (.int .i64 0), .d true (.str ⟨#[]⟩), .nil]⟩] [1, 2]) (.seq (.region [⟨some 3, none, .ld (some 4) (.t 1)⟩, ⟨some 4, none, .call (.c (.fn 43 [])) [.t 3]⟩, ⟨some 5, none, .bs 26 4 [.t 4]⟩, ⟨some 6, none, .bld [.d true (.int .i64 0), .d true (.int .i64 0), .d true (.str ⟨#[]⟩), .nil] [(0, 1, .c (.d true (.int .i64 6))), (3, 1, .t 5)]⟩, ⟨some 7, none, .call (.c (.fn 42 [])) [.t 6]⟩, ⟨none, none, .st 4 (.t 2) (.t 7)⟩] [2]) (.ret))
theorem ok19 : FnOk Try.prog Try.f19 8 keep19 ac19 [.c 2 (some 4)] := by
  refine ⟨?_, ?_, ?_, ?_, ?_⟩ <;> kernel_rfl

/-! impl.TermOk -/
def keep20 : Nat → List Nat
  | 0 => [1]
  | 1 => [2]
  | _ => []
def ac20 : AC := .seq (.region [⟨some 1, none, .box (.t 0)⟩, ⟨some 2, none, .mv (.c (.d true (.bool false)))⟩] [1]) (.seq (.region [⟨some 3, none, .ld (some 4) (.t 1)⟩, ⟨some 4, none, .call (.c (.fn 24 [])) [.t 3]⟩, ⟨some 5, none, .bin .leq (.t 4) (.c (.d true (.int .i64 200)))⟩, ⟨some 6, none, .mv (.t 5)⟩, ⟨some 7, some (6, true), .ld (some 4) (.t 1)⟩, ⟨some 8, some (6, true), .call (.c (.fn 44 [])) [.t 7]⟩, ⟨some 9, none, .pick (.t 6) (.t 8) (.c (.d true (.bool false)))⟩, ⟨some 2, none, .mv (.t 9)⟩] [2]) (.ret))
theorem ok20 : FnOk Try.prog Try.f20 10 keep20 ac20 [.t 2] := by
  refine ⟨?_, ?_, ?_, ?_, ?_⟩ <;> kernel_rfl

/-! spec.DrawAgree -/
/-! impl.Agree -/
/-! spec.Agree -/
def keep23 : Nat → List Nat
  | 0 => [2, 3, 4]
  | 1 => [2, 3, 4, 22]
  | 2 => [4, 5]
  | 3 => [4, 6, 7]
  | 4 => [4, 6, 7, 31]
  | 5 => [4, 6, 7]
  | 6 => [4, 8]
  | 7 => [4, 5]
  | 1000003 => [1]
  | 1000007 => [1]
  | _ => []
def ac23 : AC := .seq (.region [⟨some 2, none, .box (.t 0)⟩, ⟨some 3, none, .box (.t 1)⟩, ⟨some 4, none, .alloc [.d true (.int .i64 0), .d true (.int .i64 0), .d true (.str ⟨#[]⟩), .nil]⟩, ⟨some 5, none, .mv (.c (.d true (.bool false)))⟩] [2, 3, 4]) (.seq (.seq (.region [⟨some 9, none, .fa 0 (.t 3)⟩, ⟨some 10, none, .ld none (.t 9)⟩, ⟨some 11, none, .bin .neq (.t 10) (.c (.d true (.int .i64 4)))⟩, ⟨some 12, none, .mv (.t 11)⟩, ⟨some 13, some (12, false), .fa 3 (.t 3)⟩, ⟨some 14, some (12, false), .ld none (.t 13)⟩, ⟨some 15, some (12, false), .len (.t 14)⟩, ⟨some 16, some (12, false), .bin .neq (.t 15) (.c (.d true (.int .i64 1)))⟩, ⟨some 17, none, .pick (.t 12) (.c (.d true (.bool true))) (.t 16)⟩, ⟨some 18, none, .mv (.t 17)⟩, ⟨some 19, some (18, false), .ld (some 4) (.t 3)⟩, ⟨some 20, some (18, false), .call (.c (.fn 47 [])) [.t 19]⟩, ⟨some 21, some (18, false), .not (.t 20)⟩, ⟨some 22, none, .pick (.t 18) (.c (.d true (.bool true))) (.t 21)⟩] [2, 3, 4, 22]) (.cond (.t 22) (.seq (.region [⟨some 23, none, .bld [.d true (.int .i64 0), .d true (.int .i64 0), .d true (.str ⟨#[]⟩), .nil] []⟩, ⟨none, none, .st 4 (.t 4) (.t 23)⟩, ⟨some 5, none, .mv (.c (.d true (.bool false)))⟩] [4, 5]) (.ret)) (.skip))) (.seq (.tree (.take ⟨some 24, none, .ld (some 4) (.t 2)⟩ (.take ⟨some 25, none, .fa 3 (.t 3)⟩ (.take ⟨some 26, none, .ld none (.t 25)⟩ (.take ⟨some 27, none, .ia 4 (.t 26) (.c (.d true (.int .i64 0)))⟩ (.take ⟨some 28, none, .ld (some 4) (.t 27)⟩ (.br (.cons ⟨some 6, none, .alloc [.d true (.int .i64 0), .d true (.int .i64 0), .d true (.str ⟨#[]⟩), .nil]⟩ (.br (.cons ⟨some 7, none, .alloc [.d true (.int .i64 0), .d true (.int .i64 0), .d true (.str ⟨#[]⟩), .nil]⟩ (.br (.cons ⟨none, none, .st 4 (.t 6) (.t 24)⟩ (.br (.cons ⟨none, none, .st 4 (.t 7) (.t 28)⟩ (.done) (.nil))) (.nil))) (.nil))) (.cons ⟨some 7, none, .alloc [.d true (.int .i64 0), .d true (.int .i64 0), .d true (.str ⟨#[]⟩), .nil]⟩ (.br (.cons ⟨some 6, none, .alloc [.d true (.int .i64 0), .d true (.int .i64 0), .d true (.str ⟨#[]⟩), .nil]⟩ (.br (.cons ⟨none, none, .st 4 (.t 6) (.t 24)⟩ (.br (.cons ⟨none, none, .st 4 (.t 7) (.t 28)⟩ (.done) (.nil))) (.nil))) (.nil))) (.nil))))))))) [4, 6, 7]) (.seq (.seq (.region [⟨some 29, none, .ld (some 4) (.t 7)⟩, ⟨some 30, none, .ld (some 4) (.t 6)⟩, ⟨some 31, none, .call (.c (.fn 48 [])) [.t 29, .t 30]⟩] [4, 6, 7, 31]) (.cond (.t 31) (.region [⟨some 32, none, .ld (some 4) (.t 7)⟩, ⟨some 33, none, .ld (some 4) (.t 6)⟩, ⟨none, none, .st 4 (.t 6) (.t 32)⟩, ⟨none, none, .st 4 (.t 7) (.t 33)⟩] [4, 6, 7]) (.skip))) (.seq (.region [⟨some 34, none, .ld (some 4) (.t 6)⟩, ⟨some 35, none, .ld (some 4) (.t 7)⟩, ⟨some 36, none, .call (.c (.fn 41 [])) [.c (.d true (.int .i64 5)), .t 34, .t 35]⟩, ⟨some 8, none, .alloc [.d true (.int .i64 0), .d true (.int .i64 0), .d true (.str ⟨#[]⟩), .nil]⟩, ⟨none, none, .st 4 (.t 8) (.t 36)⟩] [4, 8]) (.seq (.tree (.take ⟨some 37, none, .ld (some 4) (.t 8)⟩ (.take ⟨some 38, none, .fa 0 (.t 8)⟩ (.take ⟨some 39, none, .ld none (.t 38)⟩ (.take ⟨some 40, none, .bin .eql (.t 39) (.c (.d true (.int .i64 5)))⟩ (.br (.cons ⟨none, none, .st 4 (.t 4) (.t 37)⟩ (.take ⟨some 5, none, .mv (.t 40)⟩ (.done)) (.nil))))))) [4, 5]) (.ret))))))
theorem ok23 : FnOk Try.prog Try.f23 41 keep23 ac23 [.c 4 (some 4), .t 5] := by
  refine ⟨?_, ?_, ?_, ?_, ?_⟩ <;> kernel_rfl

/-! impl.TermSize -/
def keep24 : Nat → List Nat
  | 0 => [1]
  | 1 => [1, 3]
  | 2 => [3, 7, 8, 9]
  | 3 => [3, 7, 8, 9, 10]
  | 4 => [3, 5, 7, 8, 9]
  | 5 => [3, 7, 8, 9]
  | 6 => [3, 7, 8, 9]
  | 7 => [2]
  | _ => []
def ac24 : AC := .seq (.region [⟨some 1, none, .box (.t 0)⟩, ⟨some 2, none, .mv (.c (.d true (.int .i64 0)))⟩] [1]) (.seq (.region [⟨some 3, none, .mv (.c (.d true (.int .i64 1)))⟩] [1, 3]) (.seq (.seq (.region [⟨some 6, none, .fa 3 (.t 1)⟩, ⟨some 7, none, .ld none (.t 6)⟩, ⟨some 8, none, .len (.t 7)⟩, ⟨some 9, none, .mv (.c (.d true (.int .i64 0)))⟩] [3, 7, 8, 9]) (.block 0 (.loop (.seq (.region [⟨some 10, none, .bin .lss (.t 9) (.t 8)⟩] [3, 7, 8, 9, 10]) (.seq (.cond (.t 10) (.skip) (.exit 0)) (.seq (.block 1 (.seq (.region [⟨some 11, none, .ia 4 (.t 7) (.t 9)⟩, ⟨some 12, none, .ld (some 4) (.t 11)⟩, ⟨some 5, none, .alloc [.d true (.int .i64 0), .d true (.int .i64 0), .d true (.str ⟨#[]⟩), .nil]⟩, ⟨none, none, .st 4 (.t 5) (.t 12)⟩] [3, 5, 7, 8, 9]) (.region [⟨some 13, none, .mv (.t 3)⟩, ⟨some 14, none, .ld (some 4) (.t 5)⟩, ⟨some 15, none, .call (.c (.fn 24 [])) [.t 14]⟩, ⟨some 16, none, .bin .add (.t 13) (.t 15)⟩, ⟨some 3, none, .mv (.t 16)⟩] [3, 7, 8, 9]))) (.region [⟨some 17, none, .bin .add (.t 9) (.c (.d true (.int .i64 1)))⟩, ⟨some 9, none, .mv (.t 17)⟩] [3, 7, 8, 9]))))))) (.seq (.region [⟨some 18, none, .mv (.t 3)⟩, ⟨some 2, none, .mv (.t 18)⟩] [2]) (.ret))))
theorem ok24 : FnOk Try.prog Try.f24 19 keep24 ac24 [.t 2] := by
  refine ⟨?_, ?_, ?_, ?_, ?_⟩ <;> kernel_rfl

/-! spec.DrawCan -/
def keep25 : Nat → List Nat
  | 0 => [0, 3]
  | 1 => [3, 4, 5]
  | 2 => [2, 3]
  | 1000002 => [1]
  | _ => []
def ac25 : AC := .seq (.region [⟨some 2, none, .own 26 4⟩, ⟨some 3, none, .alloc [.d true (.int .i64 0), .d true (.int .i64 0), .d true (.str ⟨#[]⟩), .nil]⟩] [0, 3]) (.seq (.region [⟨some 7, none, .mv (.t 0)⟩, ⟨some 8, none, .call (.c (.fn 29 [])) [.t 7]⟩, ⟨some 6, none, .mv (.t 8)⟩, ⟨some 9, none, .ext (.t 6) 0⟩, ⟨some 10, none, .ext (.t 6) 1⟩, ⟨some 5, none, .alloc [.d true (.int .i64 0), .d true (.int .i64 0), .d true (.str ⟨#[]⟩), .nil]⟩, ⟨some 4, none, .mv (.t 9)⟩, ⟨none, none, .st 4 (.t 5) (.t 10)⟩] [3, 4, 5]) (.seq (.tree (.take ⟨some 11, none, .mv (.t 4)⟩ (.take ⟨some 12, none, .ld (some 4) (.t 5)⟩ (.take ⟨some 2, none, .mv (.t 11)⟩ (.br (.cons ⟨none, none, .st 4 (.t 3) (.t 12)⟩ (.done) (.nil)))))) [2, 3]) (.ret)))
theorem ok25 : FnOk Try.prog Try.f25 13 keep25 ac25 [.t 2, .c 3 (some 4)] := by
  refine ⟨?_, ?_, ?_, ?_, ?_⟩ <;> kernel_rfl

/-! impl.Can -/
def keep26 : Nat → List Nat
  | 0 => [0, 3]
  | 1 => [4]
  | 1000001 => [1]
  | _ => []
def ac26 : AC := .seq (.region [⟨some 3, none, .box (.t 1)⟩, ⟨some 4, none, .mv (.c (.d true (.bool false)))⟩] [0, 3]) (.seq (.tree (.take ⟨some 5, none, .mv (.t 0)⟩ (.take ⟨some 7, none, .ld (some 4) (.t 3)⟩ (.br (.cons ⟨some 6, none, .call (.c (.fn 28 [])) [.t 5]⟩ (.br (.cons ⟨some 8, none, .call (.c (.fn 33 [])) [.t 6, .t 7]⟩ (.take ⟨some 4, none, .mv (.t 8)⟩ (.done)) (.nil))) (.nil))))) [4]) (.ret))
theorem ok26 : FnOk Try.prog Try.f26 9 keep26 ac26 [.t 4] := by
  refine ⟨?_, ?_, ?_, ?_, ?_⟩ <;> kernel_rfl

/-! spec.DrawParts -/
def keep27 : Nat → List Nat
  | 0 => [0]
  | 1 => [2]
  | _ => []
def ac27 : AC := .seq (.region [⟨some 2, none, .own 26 4⟩] [0]) (.seq (.region [⟨some 3, none, .mv (.t 0)⟩, ⟨some 4, none, .call (.c (.fn 37 [])) [.t 3]⟩, ⟨some 5, none, .call (.c (.fn 49 [])) [.t 4]⟩, ⟨some 2, none, .mv (.t 5)⟩] [2]) (.ret))
theorem ok27 : FnOk Try.prog Try.f27 6 keep27 ac27 [.t 2] := by
  refine ⟨?_, ?_, ?_, ?_, ?_⟩ <;> kernel_rfl

/-! impl.Parts -/
def keep28 : Nat → List Nat
  | 0 => [0]
  | 1 => [0, 3]
  | 2 => [3, 12, 13, 14]
  | 3 => [3, 12, 13, 14, 15]
  | 4 => [3, 5, 12, 13, 14]
  | 5 => [3, 5, 12, 13, 14, 19]
  | 6 => [3, 12, 13, 14]
  | 7 => [3, 12, 13, 14]
  | 8 => [3, 6]
  | 9 => [3, 24]
  | 10 => [3, 6]
  | 11 => [3, 6, 7]
  | 12 => [3, 6, 7, 31]
  | 13 => [3, 6, 7]
  | 14 => [3, 6, 7, 42, 43, 44]
  | 15 => [3, 6, 7, 42, 43, 44, 45]
  | 16 => [3, 6, 7, 9, 42, 43, 44]
  | 17 => [3, 6, 7, 42, 43, 44]
  | 18 => [3, 6, 7, 42, 43, 44]
  | 19 => [2]
  | _ => []
def ac28 : AC := .seq (.region [⟨some 2, none, .own 26 4⟩] [0]) (.seq (.region [⟨some 10, none, .bld [.nil] []⟩, ⟨some 11, none, .box (.t 10)⟩, ⟨some 3, none, .mv (.t 11)⟩] [0, 3]) (.seq (.seq (.region [⟨some 12, none, .mv (.t 0)⟩, ⟨some 13, none, .len (.t 12)⟩, ⟨some 14, none, .mv (.c (.d true (.int .i64 0)))⟩] [3, 12, 13, 14]) (.block 0 (.loop (.seq (.region [⟨some 15, none, .bin .lss (.t 14) (.t 13)⟩] [3, 12, 13, 14, 15]) (.seq (.cond (.t 15) (.skip) (.exit 0)) (.seq (.block 1 (.seq (.region [⟨some 16, none, .ia 4 (.t 12) (.t 14)⟩, ⟨some 17, none, .ld (some 4) (.t 16)⟩, ⟨some 5, none, .alloc [.d true (.int .i64 0), .d true (.int .i64 0), .d true (.str ⟨#[]⟩), .nil]⟩, ⟨none, none, .st 4 (.t 5) (.t 17)⟩] [3, 5, 12, 13, 14]) (.seq (.region [⟨some 18, none, .ld (some 4) (.t 5)⟩, ⟨some 19, none, .call (.c (.fn 20 [])) [.t 18]⟩] [3, 5, 12, 13, 14, 19]) (.cond (.t 19) (.region [⟨some 20, none, .mv (.t 3)⟩, ⟨some 21, none, .ld (some 4) (.t 5)⟩, ⟨some 22, none, .call (.c (.fn 50 [])) [.t 20, .t 21]⟩] [3, 12, 13, 14]) (.skip))))) (.region [⟨some 23, none, .bin .add (.t 14) (.c (.d true (.int .i64 1)))⟩, ⟨some 14, none, .mv (.t 23)⟩] [3, 12, 13, 14]))))))) (.seq (.seq (.region [⟨some 6, none, .mv (.c (.d true (.bool true)))⟩] [3, 6]) (.block 2 (.loop (.seq (.seq (.region [⟨some 24, none, .mv (.t 6)⟩] [3, 24]) (.cond (.t 24) (.skip) (.exit 2))) (.block 3 (.seq (.region [⟨some 6, none, .mv (.c (.d true (.bool false)))⟩] [3, 6]) (.seq (.region [⟨some 7, none, .mv (.c (.d true (.int .i64 0)))⟩] [3, 6, 7]) (.block 4 (.loop (.seq (.seq (.region [⟨some 25, none, .mv (.t 7)⟩, ⟨some 26, none, .mv (.t 3)⟩, ⟨some 27, none, .ck (.t 26)⟩, ⟨some 28, none, .fa 0 (.t 27)⟩, ⟨some 29, none, .ld none (.t 28)⟩, ⟨some 30, none, .len (.t 29)⟩, ⟨some 31, none, .bin .lss (.t 25) (.t 30)⟩] [3, 6, 7, 31]) (.cond (.t 31) (.skip) (.exit 4))) (.seq (.block 5 (.seq (.region [⟨some 34, none, .mv (.t 3)⟩, ⟨some 35, none, .mv (.t 3)⟩, ⟨some 36, none, .ck (.t 35)⟩, ⟨some 37, none, .fa 0 (.t 36)⟩, ⟨some 38, none, .ld none (.t 37)⟩, ⟨some 39, none, .mv (.t 7)⟩, ⟨some 40, none, .ia 4 (.t 38) (.t 39)⟩, ⟨some 41, none, .ld (some 4) (.t 40)⟩, ⟨some 42, none, .call (.c (.fn 51 [])) [.t 34, .t 41]⟩, ⟨some 43, none, .len (.t 42)⟩, ⟨some 44, none, .mv (.c (.d true (.int .i64 0)))⟩] [3, 6, 7, 42, 43, 44]) (.block 6 (.loop (.seq (.region [⟨some 45, none, .bin .lss (.t 44) (.t 43)⟩] [3, 6, 7, 42, 43, 44, 45]) (.seq (.cond (.t 45) (.skip) (.exit 6)) (.seq (.block 7 (.seq (.region [⟨some 46, none, .ia 4 (.t 42) (.t 44)⟩, ⟨some 47, none, .ld (some 4) (.t 46)⟩, ⟨some 9, none, .alloc [.d true (.int .i64 0), .d true (.int .i64 0), .d true (.str ⟨#[]⟩), .nil]⟩, ⟨none, none, .st 4 (.t 9) (.t 47)⟩] [3, 6, 7, 9, 42, 43, 44]) (.region [⟨some 48, none, .mv (.t 3)⟩, ⟨some 49, none, .ld (some 4) (.t 9)⟩, ⟨some 50, none, .call (.c (.fn 50 [])) [.t 48, .t 49]⟩, ⟨some 51, none, .mv (.t 50)⟩, ⟨some 52, some (51, false), .mv (.t 6)⟩, ⟨some 53, none, .pick (.t 51) (.c (.d true (.bool true))) (.t 52)⟩, ⟨some 6, none, .mv (.t 53)⟩] [3, 6, 7, 42, 43, 44]))) (.region [⟨some 54, none, .bin .add (.t 44) (.c (.d true (.int .i64 1)))⟩, ⟨some 44, none, .mv (.t 54)⟩] [3, 6, 7, 42, 43, 44])))))))) (.region [⟨some 32, none, .mv (.t 7)⟩, ⟨some 33, none, .bin .add (.t 32) (.c (.d true (.int .i64 1)))⟩, ⟨some 7, none, .mv (.t 33)⟩] [3, 6, 7])))))))))))) (.seq (.region [⟨some 55, none, .mv (.t 3)⟩, ⟨some 56, none, .ck (.t 55)⟩, ⟨some 57, none, .fa 0 (.t 56)⟩, ⟨some 58, none, .ld none (.t 57)⟩, ⟨some 2, none, .mv (.t 58)⟩] [2]) (.ret)))))
theorem ok28 : FnOk Try.prog Try.f28 59 keep28 ac28 [.t 2] := by
  refine ⟨?_, ?_, ?_, ?_, ?_⟩ <;> kernel_rfl

/-! spec.DrawMade -/
def keep29 : Nat → List Nat
  | 0 => [0, 3]
  | 1 => [3, 4]
  | 2 => [3, 4, 5]
  | 3 => [2, 3]
  | _ => []
def ac29 : AC := .seq (.region [⟨some 2, none, .own 26 4⟩, ⟨some 3, none, .alloc [.d true (.int .i64 0), .d true (.int .i64 0), .d true (.str ⟨#[]⟩), .nil]⟩] [0, 3]) (.seq (.region [⟨some 6, none, .mv (.t 0)⟩, ⟨some 7, none, .call (.c (.fn 37 [])) [.t 6]⟩, ⟨some 4, none, .mv (.t 7)⟩] [3, 4]) (.seq (.region [⟨some 8, none, .mv (.t 4)⟩, ⟨some 9, none, .call (.c (.fn 49 [])) [.t 8]⟩, ⟨some 5, none, .mv (.t 9)⟩] [3, 4, 5]) (.seq (.region [⟨some 10, none, .mv (.t 5)⟩, ⟨some 11, none, .mv (.t 4)⟩, ⟨some 12, none, .call (.c (.fn 38 [])) [.t 11]⟩, ⟨some 2, none, .mv (.t 10)⟩, ⟨none, none, .st 4 (.t 3) (.t 12)⟩] [2, 3]) (.ret))))
theorem ok29 : FnOk Try.prog Try.f29 13 keep29 ac29 [.t 2, .c 3 (some 4)] := by
  refine ⟨?_, ?_, ?_, ?_, ?_⟩ <;> kernel_rfl

/-! spec.Can -/
def keep30 : Nat → List Nat
  | 0 => [0, 3]
  | 1 => [4]
  | 1000001 => [1]
  | _ => []
def ac30 : AC := .seq (.region [⟨some 3, none, .box (.t 1)⟩, ⟨some 4, none, .mv (.c (.d true (.bool false)))⟩] [0, 3]) (.seq (.tree (.take ⟨some 5, none, .ld (some 4) (.t 3)⟩ (.br (.cons ⟨some 6, none, .call (.c (.fn 47 [])) [.t 5]⟩ (.take ⟨some 7, none, .mv (.t 6)⟩ (.take ⟨some 8, some (7, true), .mv (.t 0)⟩ (.take ⟨some 10, some (7, true), .ld (some 4) (.t 3)⟩ (.br (.cons ⟨some 9, some (7, true), .call (.c (.fn 32 [])) [.t 8]⟩ (.br (.cons ⟨some 11, some (7, true), .call (.c (.fn 52 [])) [.t 9, .t 10]⟩ (.take ⟨some 12, none, .pick (.t 7) (.t 11) (.c (.d true (.bool false)))⟩ (.take ⟨some 4, none, .mv (.t 12)⟩ (.done))) (.nil))) (.nil)))))) (.nil)))) [4]) (.ret))
theorem ok30 : FnOk Try.prog Try.f30 13 keep30 ac30 [.t 4] := by
  refine ⟨?_, ?_, ?_, ?_, ?_⟩ <;> kernel_rfl

/-! laws.sameTerms -/
def keep31 : Nat → List Nat
  | 0 => [0, 1]
  | 1 => [0, 1, 10]
  | 2 => [4]
  | 3 => [0, 1, 5]
  | 4 => [0, 1, 5, 14]
  | 5 => [0, 1, 5]
  | 6 => [0, 1, 5, 26]
  | 7 => [4]
  | 8 => [4]
  | _ => []
def ac31 : AC := .seq (.region [⟨some 4, none, .mv (.c (.d true (.bool false)))⟩] [0, 1]) (.seq (.seq (.region [⟨some 6, none, .mv (.t 0)⟩, ⟨some 7, none, .len (.t 6)⟩, ⟨some 8, none, .mv (.t 1)⟩, ⟨some 9, none, .len (.t 8)⟩, ⟨some 10, none, .bin .neq (.t 7) (.t 9)⟩] [0, 1, 10]) (.cond (.t 10) (.seq (.region [⟨some 4, none, .mv (.c (.d true (.bool false)))⟩] [4]) (.ret)) (.skip))) (.seq (.seq (.region [⟨some 5, none, .mv (.c (.d true (.int .i64 0)))⟩] [0, 1, 5]) (.block 0 (.loop (.seq (.seq (.region [⟨some 11, none, .mv (.t 5)⟩, ⟨some 12, none, .mv (.t 0)⟩, ⟨some 13, none, .len (.t 12)⟩, ⟨some 14, none, .bin .lss (.t 11) (.t 13)⟩] [0, 1, 5, 14]) (.cond (.t 14) (.skip) (.exit 0))) (.seq (.block 1 (.seq (.draw [⟨some 17, none, .mv (.t 0)⟩, ⟨some 18, none, .mv (.t 5)⟩, ⟨some 19, none, .ia 4 (.t 17) (.t 18)⟩, ⟨some 20, none, .ld (some 4) (.t 19)⟩, ⟨some 21, none, .mv (.t 1)⟩, ⟨some 22, none, .mv (.t 5)⟩, ⟨some 23, none, .ia 4 (.t 21) (.t 22)⟩, ⟨some 24, none, .ld (some 4) (.t 23)⟩, ⟨some 25, none, .call (.c (.fn 53 [])) [.t 20, .t 24]⟩, ⟨some 26, none, .not (.t 25)⟩] [0, 1, 5, 26]) (.cond (.t 26) (.seq (.region [⟨some 4, none, .mv (.c (.d true (.bool false)))⟩] [4]) (.ret)) (.skip)))) (.region [⟨some 15, none, .mv (.t 5)⟩, ⟨some 16, none, .bin .add (.t 15) (.c (.d true (.int .i64 1)))⟩, ⟨some 5, none, .mv (.t 16)⟩] [0, 1, 5])))))) (.seq (.region [⟨some 4, none, .mv (.c (.d true (.bool true)))⟩] [4]) (.ret))))
theorem ok31 : FnOk Try.prog Try.f31 27 keep31 ac31 [.t 4] := by
  refine ⟨?_, ?_, ?_, ?_, ?_⟩ <;> kernel_rfl

/-! spec.Parts -/
def keep32 : Nat → List Nat
  | 0 => [0]
  | 1 => [0, 3]
  | 2 => [0, 3, 4]
  | 3 => [0, 3, 4, 13]
  | 4 => [0, 3, 4]
  | 5 => [0, 3, 4, 20]
  | 6 => [0, 3, 4]
  | 7 => [3, 5]
  | 8 => [3, 27]
  | 9 => [3, 6]
  | 10 => [3, 6, 7]
  | 11 => [3, 6, 7, 33]
  | 12 => [3, 6, 7]
  | 13 => [3, 6, 7, 8]
  | 14 => [3, 6, 7, 8, 41]
  | 15 => [3, 6, 7, 8, 41, 42]
  | 16 => [3, 6, 7]
  | 17 => [3, 6, 7, 8, 41, 55]
  | 18 => [3, 6, 7]
  | 19 => [3, 6, 7, 8, 63]
  | 20 => [3, 6, 7, 8, 70]
  | 21 => [3, 6, 7]
  | 22 => [3, 5]
  | 23 => [2]
  | 1000016 => [1]
  | _ => []
def ac32 : AC := .seq (.region [⟨some 2, none, .own 26 4⟩] [0]) (.seq (.region [⟨some 9, none, .bs 26 4 []⟩, ⟨some 3, none, .mv (.t 9)⟩] [0, 3]) (.seq (.seq (.region [⟨some 4, none, .mv (.c (.d true (.int .i64 0)))⟩] [0, 3, 4]) (.block 0 (.loop (.seq (.seq (.region [⟨some 10, none, .mv (.t 4)⟩, ⟨some 11, none, .mv (.t 0)⟩, ⟨some 12, none, .len (.t 11)⟩, ⟨some 13, none, .bin .lss (.t 10) (.t 12)⟩] [0, 3, 4, 13]) (.cond (.t 13) (.skip) (.exit 0))) (.seq (.block 1 (.seq (.region [⟨some 16, none, .mv (.t 0)⟩, ⟨some 17, none, .mv (.t 4)⟩, ⟨some 18, none, .ia 4 (.t 16) (.t 17)⟩, ⟨some 19, none, .ld (some 4) (.t 18)⟩, ⟨some 20, none, .call (.c (.fn 47 [])) [.t 19]⟩] [0, 3, 4, 20]) (.cond (.t 20) (.region [⟨some 21, none, .mv (.t 3)⟩, ⟨some 22, none, .mv (.t 0)⟩, ⟨some 23, none, .mv (.t 4)⟩, ⟨some 24, none, .ia 4 (.t 22) (.t 23)⟩, ⟨some 25, none, .ld (some 4) (.t 24)⟩, ⟨some 26, none, .call (.c (.fn 54 [])) [.t 21, .t 25]⟩, ⟨some 3, none, .mv (.t 26)⟩] [0, 3, 4]) (.skip)))) (.region [⟨some 14, none, .mv (.t 4)⟩, ⟨some 15, none, .bin .add (.t 14) (.c (.d true (.int .i64 1)))⟩, ⟨some 4, none, .mv (.t 15)⟩] [0, 3, 4])))))) (.seq (.seq (.region [⟨some 5, none, .mv (.c (.d true (.bool true)))⟩] [3, 5]) (.block 2 (.loop (.seq (.seq (.region [⟨some 27, none, .mv (.t 5)⟩] [3, 27]) (.cond (.t 27) (.skip) (.exit 2))) (.block 3 (.seq (.region [⟨some 28, none, .mv (.t 3)⟩, ⟨some 29, none, .len (.t 28)⟩, ⟨some 6, none, .mv (.t 29)⟩] [3, 6]) (.seq (.seq (.region [⟨some 7, none, .mv (.c (.d true (.int .i64 0)))⟩] [3, 6, 7]) (.block 4 (.loop (.seq (.seq (.region [⟨some 30, none, .mv (.t 7)⟩, ⟨some 31, none, .mv (.t 3)⟩, ⟨some 32, none, .len (.t 31)⟩, ⟨some 33, none, .bin .lss (.t 30) (.t 32)⟩] [3, 6, 7, 33]) (.cond (.t 33) (.skip) (.exit 4))) (.seq (.block 5 (.seq (.region [⟨some 36, none, .mv (.t 3)⟩, ⟨some 37, none, .mv (.t 7)⟩, ⟨some 38, none, .ia 4 (.t 36) (.t 37)⟩, ⟨some 39, none, .ld (some 4) (.t 38)⟩, ⟨some 8, none, .alloc [.d true (.int .i64 0), .d true (.int .i64 0), .d true (.str ⟨#[]⟩), .nil]⟩, ⟨none, none, .st 4 (.t 8) (.t 39)⟩] [3, 6, 7, 8]) (.seq (.region [⟨some 40, none, .fa 0 (.t 8)⟩, ⟨some 41, none, .ld none (.t 40)⟩] [3, 6, 7, 8, 41]) (.block 6 (.seq (.region [⟨some 43, none, .bin .eql (.t 41) (.c (.d true (.int .i64 3)))⟩, ⟨some 42, none, .mv (.t 43)⟩] [3, 6, 7, 8, 41, 42]) (.cond (.t 42) (.tree (.take ⟨some 44, none, .mv (.t 3)⟩ (.take ⟨some 45, none, .fa 3 (.t 8)⟩ (.take ⟨some 46, none, .ld none (.t 45)⟩ (.take ⟨some 47, none, .ia 4 (.t 46) (.c (.d true (.int .i64 0)))⟩ (.take ⟨some 48, none, .ld (some 4) (.t 47)⟩ (.take ⟨some 50, none, .fa 3 (.t 8)⟩ (.take ⟨some 51, none, .ld none (.t 50)⟩ (.take ⟨some 52, none, .ia 4 (.t 51) (.c (.d true (.int .i64 1)))⟩ (.take ⟨some 53, none, .ld (some 4) (.t 52)⟩ (.br (.cons ⟨some 49, none, .call (.c (.fn 54 [])) [.t 44, .t 48]⟩ (.br (.cons ⟨some 54, none, .call (.c (.fn 54 [])) [.t 49, .t 53]⟩ (.take ⟨some 3, none, .mv (.t 54)⟩ (.done)) (.nil))) (.nil)))))))))))) [3, 6, 7]) (.seq (.region [⟨some 56, none, .bin .eql (.t 41) (.c (.d true (.int .i64 8)))⟩, ⟨some 55, none, .mv (.t 56)⟩] [3, 6, 7, 8, 41, 55]) (.cond (.t 55) (.region [⟨some 57, none, .mv (.t 3)⟩, ⟨some 58, none, .fa 3 (.t 8)⟩, ⟨some 59, none, .ld none (.t 58)⟩, ⟨some 60, none, .ia 4 (.t 59) (.c (.d true (.int .i64 1)))⟩, ⟨some 61, none, .ld (some 4) (.t 60)⟩, ⟨some 62, none, .call (.c (.fn 54 [])) [.t 57, .t 61]⟩, ⟨some 3, none, .mv (.t 62)⟩] [3, 6, 7]) (.seq (.region [⟨some 64, none, .bin .eql (.t 41) (.c (.d true (.int .i64 7)))⟩, ⟨some 63, none, .mv (.t 64)⟩] [3, 6, 7, 8, 63]) (.cond (.t 63) (.seq (.region [⟨some 65, none, .mv (.t 3)⟩, ⟨some 66, none, .fa 3 (.t 8)⟩, ⟨some 67, none, .ld none (.t 66)⟩, ⟨some 68, none, .ia 4 (.t 67) (.c (.d true (.int .i64 0)))⟩, ⟨some 69, none, .ld (some 4) (.t 68)⟩, ⟨some 70, none, .call (.c (.fn 52 [])) [.t 65, .t 69]⟩] [3, 6, 7, 8, 70]) (.cond (.t 70) (.region [⟨some 71, none, .mv (.t 3)⟩, ⟨some 72, none, .fa 3 (.t 8)⟩, ⟨some 73, none, .ld none (.t 72)⟩, ⟨some 74, none, .ia 4 (.t 73) (.c (.d true (.int .i64 1)))⟩, ⟨some 75, none, .ld (some 4) (.t 74)⟩, ⟨some 76, none, .call (.c (.fn 54 [])) [.t 71, .t 75]⟩, ⟨some 3, none, .mv (.t 76)⟩] [3, 6, 7]) (.skip))) (.skip))))))))))) (.region [⟨some 34, none, .mv (.t 7)⟩, ⟨some 35, none, .bin .add (.t 34) (.c (.d true (.int .i64 1)))⟩, ⟨some 7, none, .mv (.t 35)⟩] [3, 6, 7])))))) (.region [⟨some 77, none, .mv (.t 3)⟩, ⟨some 78, none, .len (.t 77)⟩, ⟨some 79, none, .mv (.t 6)⟩, ⟨some 80, none, .bin .gtr (.t 78) (.t 79)⟩, ⟨some 5, none, .mv (.t 80)⟩] [3, 5])))))))) (.seq (.region [⟨some 81, none, .mv (.t 3)⟩, ⟨some 2, none, .mv (.t 81)⟩] [2]) (.ret)))))
theorem ok32 : FnOk Try.prog Try.f32 82 keep32 ac32 [.t 2] := by
  refine ⟨?_, ?_, ?_, ?_, ?_⟩ <;> kernel_rfl

/-! impl.Made -/
def keep33 : Nat → List Nat
  | 0 => [0, 3]
  | 1 => [4]
  | _ => []
def ac33 : AC := .seq (.region [⟨some 3, none, .box (.t 1)⟩, ⟨some 4, none, .mv (.c (.d true (.bool false)))⟩] [0, 3]) (.seq (.region [⟨some 5, none, .ld (some 4) (.t 3)⟩, ⟨some 6, none, .call (.c (.fn 20 [])) [.t 5]⟩, ⟨some 7, none, .mv (.t 6)⟩, ⟨some 8, some (7, true), .mv (.t 0)⟩, ⟨some 9, some (7, true), .ld (some 4) (.t 3)⟩, ⟨some 10, some (7, true), .call (.c (.fn 55 [])) [.t 8, .t 9]⟩, ⟨some 11, none, .pick (.t 7) (.t 10) (.c (.d true (.bool false)))⟩, ⟨some 4, none, .mv (.t 11)⟩] [4]) (.ret))
theorem ok33 : FnOk Try.prog Try.f33 12 keep33 ac33 [.t 4] := by
  refine ⟨?_, ?_, ?_, ?_, ?_⟩ <;> kernel_rfl

/-! spec.Made -/
def keep34 : Nat → List Nat
  | 0 => [0, 3]
  | 1 => [4]
  | _ => []
def ac34 : AC := .seq (.region [⟨some 3, none, .box (.t 1)⟩, ⟨some 4, none, .mv (.c (.d true (.bool false)))⟩] [0, 3]) (.seq (.region [⟨some 5, none, .ld (some 4) (.t 3)⟩, ⟨some 6, none, .call (.c (.fn 47 [])) [.t 5]⟩, ⟨some 7, none, .mv (.t 6)⟩, ⟨some 8, some (7, true), .mv (.t 0)⟩, ⟨some 9, some (7, true), .ld (some 4) (.t 3)⟩, ⟨some 10, some (7, true), .call (.c (.fn 52 [])) [.t 8, .t 9]⟩, ⟨some 11, none, .pick (.t 7) (.t 10) (.c (.d true (.bool false)))⟩, ⟨some 4, none, .mv (.t 11)⟩] [4]) (.ret))
theorem ok34 : FnOk Try.prog Try.f34 12 keep34 ac34 [.t 4] := by
  refine ⟨?_, ?_, ?_, ?_, ?_⟩ <;> kernel_rfl

/-! spec.l1DrawTwo -/
/-! spec.l1PickInt -/
def keep36 : Nat → List Nat
  | 0 => [0, 1, 1000000, 1000001]
  | 1 => [4, 1000000, 1000001]
  | _ => []
def ac36 : AC := .seq (.region [⟨some 4, none, .mv (.c (.d true (.int .i64 0)))⟩] [0, 1, 1000000, 1000001]) (.seq (.region [⟨some 5, none, .mv (.t 1)⟩, ⟨some 6, none, .mv (.t 0)⟩, ⟨some 7, none, .mv (.t 1)⟩, ⟨some 8, none, .len (.t 7)⟩, ⟨some 9, none, .call (.c (.fn 56 [])) [.t 6, .t 8]⟩, ⟨some 10, none, .ia 1 (.t 5) (.t 9)⟩, ⟨some 11, none, .ld none (.t 10)⟩, ⟨some 4, none, .mv (.t 11)⟩] [4, 1000000, 1000001]) (.ret))
theorem ok36 : FnOk Try.prog Try.f36 12 keep36 ac36 [.t 4] := by
  refine ⟨?_, ?_, ?_, ?_, ?_⟩ <;> kernel_rfl

/-! spec.l1New -/
def keep37 : Nat → List Nat
  | 0 => [0]
  | 1 => [0, 3]
  | 2 => [0, 3, 4]
  | 3 => [0, 3, 4, 15]
  | 4 => [0, 3, 4]
  | 5 => [0, 3, 4]
  | 6 => [2]
  | _ => []
def ac37 : AC := .seq (.region [⟨some 2, none, .mv (.c (.any))⟩] [0]) (.seq (.region [⟨some 5, none, .mv (.t 0)⟩, ⟨some 6, none, .len (.t 5)⟩, ⟨some 7, none, .bin .add (.c (.d true (.int .i64 22143))) (.t 6)⟩, ⟨some 3, none, .mv (.t 7)⟩] [0, 3]) (.seq (.seq (.region [⟨some 4, none, .mv (.c (.d true (.int .i64 0)))⟩] [0, 3, 4]) (.block 0 (.loop (.seq (.seq (.region [⟨some 8, none, .mv (.t 4)⟩, ⟨some 9, none, .mv (.t 0)⟩, ⟨some 10, none, .len (.t 9)⟩, ⟨some 11, none, .bin .lss (.t 8) (.t 10)⟩, ⟨some 12, none, .mv (.t 11)⟩, ⟨some 13, some (12, true), .mv (.t 4)⟩, ⟨some 14, some (12, true), .bin .lss (.t 13) (.c (.d true (.int .i64 4000)))⟩, ⟨some 15, none, .pick (.t 12) (.t 14) (.c (.d true (.bool false)))⟩] [0, 3, 4, 15]) (.cond (.t 15) (.skip) (.exit 0))) (.seq (.block 1 (.region [⟨some 18, none, .mv (.t 3)⟩, ⟨some 19, none, .bin .mul (.t 18) (.c (.d true (.int .i64 131)))⟩, ⟨some 20, none, .mv (.t 0)⟩, ⟨some 21, none, .mv (.t 4)⟩, ⟨some 22, none, .ia 1 (.t 20) (.t 21)⟩, ⟨some 23, none, .ld none (.t 22)⟩, ⟨some 24, none, .cvi .i64 (.t 23)⟩, ⟨some 25, none, .bin .add (.t 19) (.t 24)⟩, ⟨some 26, none, .bin .add (.t 25) (.c (.d true (.int .i64 7)))⟩, ⟨some 27, none, .bin .and (.t 26) (.c (.d true (.int .i64 1073741823)))⟩, ⟨some 3, none, .mv (.t 27)⟩] [0, 3, 4])) (.region [⟨some 16, none, .mv (.t 4)⟩, ⟨some 17, none, .bin .add (.t 16) (.c (.d true (.int .i64 1)))⟩, ⟨some 4, none, .mv (.t 17)⟩] [0, 3, 4])))))) (.seq (.region [⟨some 28, none, .mv (.t 0)⟩, ⟨some 29, none, .mv (.t 3)⟩, ⟨some 30, none, .bld [.nil, .d true (.int .i64 0), .d true (.int .i64 0)] [(0, 1, .t 28), (2, 1, .t 29)]⟩, ⟨some 31, none, .box (.t 30)⟩, ⟨some 2, none, .mv (.t 31)⟩] [2]) (.ret))))
theorem ok37 : FnOk Try.prog Try.f37 32 keep37 ac37 [.t 2] := by
  refine ⟨?_, ?_, ?_, ?_, ?_⟩ <;> kernel_rfl

/-! spec.l1Draw -/
def keep38 : Nat → List Nat
  | 0 => [0, 2, 1000000, 1000001]
  | 1 => [0, 2, 3, 1000000, 1000001]
  | 2 => [0, 2, 3, 7, 1000000, 1000001]
  | 3 => [0, 2, 3, 7, 8, 1000000, 1000001]
  | 4 => [2, 3, 1000000, 1000001]
  | 5 => [0, 2, 3, 7, 14, 1000000, 1000001]
  | 6 => [2, 3, 1000000, 1000001]
  | 7 => [2, 3, 7, 20, 1000000, 1000001]
  | 8 => [2, 3, 1000000, 1000001]
  | 9 => [2, 3, 23, 1000000, 1000001]
  | 10 => [2, 3, 1000000, 1000001]
  | 11 => [2, 1000000, 1000001]
  | _ => []
def ac38 : AC := .seq (.region [⟨some 2, none, .alloc [.d true (.int .i64 0), .d true (.int .i64 0), .d true (.str ⟨#[]⟩), .nil]⟩] [0, 2, 1000000, 1000001]) (.seq (.region [⟨some 4, none, .mv (.t 0)⟩, ⟨some 5, none, .call (.c (.fn 57 [])) [.t 4, .c (.d true (.int .i64 3))]⟩, ⟨some 3, none, .alloc [.d true (.int .i64 0), .d true (.int .i64 0), .d true (.str ⟨#[]⟩), .nil]⟩, ⟨none, none, .st 4 (.t 3) (.t 5)⟩] [0, 2, 3, 1000000, 1000001]) (.seq (.seq (.region [⟨some 6, none, .mv (.t 0)⟩, ⟨some 7, none, .call (.c (.fn 56 [])) [.t 6, .c (.d true (.int .i64 14))]⟩] [0, 2, 3, 7, 1000000, 1000001]) (.block 0 (.seq (.region [⟨some 9, none, .bin .eql (.t 7) (.c (.d true (.int .i64 0)))⟩, ⟨some 8, none, .mv (.t 9)⟩] [0, 2, 3, 7, 8, 1000000, 1000001]) (.cond (.t 8) (.region [⟨some 10, none, .mv (.t 0)⟩, ⟨some 11, none, .call (.c (.fn 56 [])) [.t 10, .c (.d true (.int .i64 11))]⟩, ⟨some 12, none, .bin .sub (.t 11) (.c (.d true (.int .i64 1)))⟩, ⟨some 13, none, .fa 0 (.t 3)⟩, ⟨none, none, .st 1 (.t 13) (.t 12)⟩] [2, 3, 1000000, 1000001]) (.seq (.region [⟨some 15, none, .bin .eql (.t 7) (.c (.d true (.int .i64 1)))⟩, ⟨some 14, none, .mv (.t 15)⟩] [0, 2, 3, 7, 14, 1000000, 1000001]) (.cond (.t 14) (.region [⟨some 16, none, .mv (.t 0)⟩, ⟨some 17, none, .bs 3 1 [.c (.d true (.int .i64 (-1))), .c (.d true (.int .i64 1)), .c (.d true (.int .i64 1000000)), .c (.d true (.int .i64 1000001)), .c (.d true (.int .i64 (-9223372036854775808)))]⟩, ⟨some 18, none, .call (.c (.fn 36 [])) [.t 16, .t 17]⟩, ⟨some 19, none, .fa 1 (.t 3)⟩, ⟨none, none, .st 1 (.t 19) (.t 18)⟩] [2, 3, 1000000, 1000001]) (.seq (.region [⟨some 21, none, .bin .eql (.t 7) (.c (.d true (.int .i64 2)))⟩, ⟨some 20, none, .mv (.t 21)⟩] [2, 3, 7, 20, 1000000, 1000001]) (.cond (.t 20) (.region [⟨some 22, none, .fa 2 (.t 3)⟩, ⟨none, none, .st 1 (.t 22) (.c (.d true (.str ⟨#[120]⟩)))⟩] [2, 3, 1000000, 1000001]) (.seq (.region [⟨some 24, none, .bin .eql (.t 7) (.c (.d true (.int .i64 3)))⟩, ⟨some 23, none, .mv (.t 24)⟩] [2, 3, 23, 1000000, 1000001]) (.cond (.t 23) (.region [⟨some 25, none, .fa 3 (.t 3)⟩, ⟨some 26, none, .ld none (.t 25)⟩, ⟨some 27, none, .bld [.d true (.int .i64 0), .d true (.int .i64 0), .d true (.str ⟨#[]⟩), .nil] [(0, 1, .c (.d true (.int .i64 1)))]⟩, ⟨some 28, none, .bs 26 4 [.t 27]⟩, ⟨some 29, none, .app 26 4 56 (.t 26) (.t 28)⟩, ⟨some 30, none, .fa 3 (.t 3)⟩, ⟨none, none, .st 1 (.t 30) (.t 29)⟩] [2, 3, 1000000, 1000001]) (.skip))))))))))) (.seq (.region [⟨some 31, none, .ld (some 4) (.t 3)⟩, ⟨none, none, .st 4 (.t 2) (.t 31)⟩] [2, 1000000, 1000001]) (.ret))))
theorem ok38 : FnOk Try.prog Try.f38 32 keep38 ac38 [.c 2 (some 4)] := by
  refine ⟨?_, ?_, ?_, ?_, ?_⟩ <;> kernel_rfl

/-! impl.right -/
/-! slices.EqualFunc[[]impl.Term,[]impl.Term,impl.Term,impl.Term] -/
def keep40 : Nat → List Nat
  | 0 => [0, 1, 2]
  | 1 => [0, 1, 2, 14]
  | 2 => [6]
  | 3 => [1, 2, 15, 16, 17]
  | 4 => [1, 2, 15, 16, 17, 18]
  | 5 => [1, 2, 7, 8, 15, 16, 17]
  | 6 => [1, 2, 8, 9, 15, 16, 17]
  | 7 => [1, 2, 15, 16, 17, 30]
  | 8 => [6]
  | 9 => [1, 2, 15, 16, 17]
  | 10 => [6]
  | _ => []
def ac40 : AC := .seq (.region [⟨some 6, none, .mv (.c (.d true (.bool false)))⟩] [0, 1, 2]) (.seq (.seq (.region [⟨some 10, none, .mv (.t 0)⟩, ⟨some 11, none, .len (.t 10)⟩, ⟨some 12, none, .mv (.t 1)⟩, ⟨some 13, none, .len (.t 12)⟩, ⟨some 14, none, .bin .neq (.t 11) (.t 13)⟩] [0, 1, 2, 14]) (.cond (.t 14) (.seq (.region [⟨some 6, none, .mv (.c (.d true (.bool false)))⟩] [6]) (.ret)) (.skip))) (.seq (.seq (.region [⟨some 15, none, .mv (.t 0)⟩, ⟨some 16, none, .len (.t 15)⟩, ⟨some 17, none, .mv (.c (.d true (.int .i64 0)))⟩] [1, 2, 15, 16, 17]) (.block 0 (.loop (.seq (.region [⟨some 18, none, .bin .lss (.t 17) (.t 16)⟩] [1, 2, 15, 16, 17, 18]) (.seq (.cond (.t 18) (.skip) (.exit 0)) (.seq (.block 1 (.seq (.region [⟨some 19, none, .mv (.t 17)⟩, ⟨some 20, none, .ia 4 (.t 15) (.t 17)⟩, ⟨some 21, none, .ld (some 4) (.t 20)⟩, ⟨some 8, none, .alloc [.d true (.int .i64 0), .d true (.int .i64 0), .d true (.str ⟨#[]⟩), .nil]⟩, ⟨some 7, none, .mv (.t 19)⟩, ⟨none, none, .st 4 (.t 8) (.t 21)⟩] [1, 2, 7, 8, 15, 16, 17]) (.seq (.region [⟨some 22, none, .mv (.t 1)⟩, ⟨some 23, none, .mv (.t 7)⟩, ⟨some 24, none, .ia 4 (.t 22) (.t 23)⟩, ⟨some 25, none, .ld (some 4) (.t 24)⟩, ⟨some 9, none, .alloc [.d true (.int .i64 0), .d true (.int .i64 0), .d true (.str ⟨#[]⟩), .nil]⟩, ⟨none, none, .st 4 (.t 9) (.t 25)⟩] [1, 2, 8, 9, 15, 16, 17]) (.seq (.region [⟨some 26, none, .mv (.t 2)⟩, ⟨some 27, none, .ld (some 4) (.t 8)⟩, ⟨some 28, none, .ld (some 4) (.t 9)⟩, ⟨some 29, none, .call (.t 26) [.t 27, .t 28]⟩, ⟨some 30, none, .not (.t 29)⟩] [1, 2, 15, 16, 17, 30]) (.cond (.t 30) (.seq (.region [⟨some 6, none, .mv (.c (.d true (.bool false)))⟩] [6]) (.ret)) (.skip)))))) (.region [⟨some 31, none, .bin .add (.t 17) (.c (.d true (.int .i64 1)))⟩, ⟨some 17, none, .mv (.t 31)⟩] [1, 2, 15, 16, 17]))))))) (.seq (.region [⟨some 6, none, .mv (.c (.d true (.bool true)))⟩] [6]) (.ret))))
theorem ok40 : FnOk Try.prog Try.f40 32 keep40 ac40 [.t 6] := by
  refine ⟨?_, ?_, ?_, ?_, ?_⟩ <;> kernel_rfl

/-! spec.l3Two -/
def keep41 : Nat → List Nat
  | 0 => [0, 4, 5, 6]
  | 1 => [6]
  | 1000001 => [1]
  | _ => []
def ac41 : AC := .seq (.region [⟨some 4, none, .box (.t 1)⟩, ⟨some 5, none, .box (.t 2)⟩, ⟨some 6, none, .alloc [.d true (.int .i64 0), .d true (.int .i64 0), .d true (.str ⟨#[]⟩), .nil]⟩] [0, 4, 5, 6]) (.seq (.tree (.take ⟨some 7, none, .mv (.t 0)⟩ (.take ⟨some 8, none, .ld (some 4) (.t 4)⟩ (.take ⟨some 10, none, .ld (some 4) (.t 5)⟩ (.br (.cons ⟨some 9, none, .call (.c (.fn 43 [])) [.t 8]⟩ (.br (.cons ⟨some 11, none, .call (.c (.fn 43 [])) [.t 10]⟩ (.br (.cons ⟨some 12, none, .bs 26 4 [.t 9, .t 11]⟩ (.take ⟨some 13, none, .bld [.d true (.int .i64 0), .d true (.int .i64 0), .d true (.str ⟨#[]⟩), .nil] [(0, 1, .t 7), (3, 1, .t 12)]⟩ (.br (.cons ⟨some 14, none, .call (.c (.fn 42 [])) [.t 13]⟩ (.br (.cons ⟨none, none, .st 4 (.t 6) (.t 14)⟩ (.done) (.nil))) (.nil)))) (.nil))) (.nil))) (.nil)))))) [6]) (.ret))
theorem ok41 : FnOk Try.prog Try.f41 15 keep41 ac41 [.c 6 (some 4)] := by
  refine ⟨?_, ?_, ?_, ?_, ?_⟩ <;> kernel_rfl

/-! spec.l3Ok -/
def keep42 : Nat → List Nat
  | 0 => [1, 2]
  | 1 => [1, 2, 5]
  | 2 => [2]
  | 3 => [2]
  | _ => []
def ac42 : AC := .seq (.region [⟨some 1, none, .box (.t 0)⟩, ⟨some 2, none, .alloc [.d true (.int .i64 0), .d true (.int .i64 0), .d true (.str ⟨#[]⟩), .nil]⟩] [1, 2]) (.seq (.seq (.region [⟨some 3, none, .ld (some 4) (.t 1)⟩, ⟨some 4, none, .call (.c (.fn 47 [])) [.t 3]⟩, ⟨some 5, none, .not (.t 4)⟩] [1, 2, 5]) (.cond (.t 5) (.seq (.region [⟨some 6, none, .bld [.d true (.int .i64 0), .d true (.int .i64 0), .d true (.str ⟨#[]⟩), .nil] []⟩, ⟨none, none, .st 4 (.t 2) (.t 6)⟩] [2]) (.ret)) (.skip))) (.seq (.region [⟨some 7, none, .ld (some 4) (.t 1)⟩, ⟨none, none, .st 4 (.t 2) (.t 7)⟩] [2]) (.ret)))
theorem ok42 : FnOk Try.prog Try.f42 8 keep42 ac42 [.c 2 (some 4)] := by
  refine ⟨?_, ?_, ?_, ?_, ?_⟩ <;> kernel_rfl

/-! spec.l1Copy -/
def keep43 : Nat → List Nat
  | 0 => [1, 2]
  | 1 => [1, 2, 3]
  | 2 => [1, 2, 3, 4]
  | 3 => [1, 2, 3, 4, 16]
  | 4 => [1, 2, 3, 4]
  | 5 => [1, 2, 3, 4]
  | 6 => [2]
  | 1000005 => [1]
  | _ => []
def ac43 : AC := .seq (.region [⟨some 1, none, .box (.t 0)⟩, ⟨some 2, none, .alloc [.d true (.int .i64 0), .d true (.int .i64 0), .d true (.str ⟨#[]⟩), .nil]⟩] [1, 2]) (.seq (.region [⟨some 5, none, .fa 0 (.t 1)⟩, ⟨some 6, none, .ld none (.t 5)⟩, ⟨some 7, none, .fa 1 (.t 1)⟩, ⟨some 8, none, .ld none (.t 7)⟩, ⟨some 9, none, .fa 2 (.t 1)⟩, ⟨some 10, none, .ld none (.t 9)⟩, ⟨some 11, none, .bld [.d true (.int .i64 0), .d true (.int .i64 0), .d true (.str ⟨#[]⟩), .nil] [(0, 1, .t 6), (1, 1, .t 8), (2, 1, .t 10)]⟩, ⟨some 3, none, .alloc [.d true (.int .i64 0), .d true (.int .i64 0), .d true (.str ⟨#[]⟩), .nil]⟩, ⟨none, none, .st 4 (.t 3) (.t 11)⟩] [1, 2, 3]) (.seq (.seq (.region [⟨some 4, none, .mv (.c (.d true (.int .i64 0)))⟩] [1, 2, 3, 4]) (.block 0 (.loop (.seq (.seq (.region [⟨some 12, none, .mv (.t 4)⟩, ⟨some 13, none, .fa 3 (.t 1)⟩, ⟨some 14, none, .ld none (.t 13)⟩, ⟨some 15, none, .len (.t 14)⟩, ⟨some 16, none, .bin .lss (.t 12) (.t 15)⟩] [1, 2, 3, 4, 16]) (.cond (.t 16) (.skip) (.exit 0))) (.seq (.block 1 (.tree (.take ⟨some 19, none, .fa 3 (.t 3)⟩ (.take ⟨some 21, none, .fa 3 (.t 1)⟩ (.take ⟨some 22, none, .ld none (.t 21)⟩ (.take ⟨some 23, none, .mv (.t 4)⟩ (.take ⟨some 24, none, .ia 4 (.t 22) (.t 23)⟩ (.take ⟨some 25, none, .ld (some 4) (.t 24)⟩ (.br (.cons ⟨some 20, none, .ld none (.t 19)⟩ (.br (.cons ⟨some 26, none, .call (.c (.fn 43 [])) [.t 25]⟩ (.br (.cons ⟨some 27, none, .bs 26 4 [.t 26]⟩ (.br (.cons ⟨some 28, none, .app 26 4 56 (.t 20) (.t 27)⟩ (.take ⟨some 29, none, .fa 3 (.t 3)⟩ (.br (.cons ⟨none, none, .st 1 (.t 29) (.t 28)⟩ (.done) (.nil)))) (.nil))) (.nil))) (.nil))) (.cons ⟨some 26, none, .call (.c (.fn 43 [])) [.t 25]⟩ (.br (.cons ⟨some 20, none, .ld none (.t 19)⟩ (.br (.cons ⟨some 27, none, .bs 26 4 [.t 26]⟩ (.br (.cons ⟨some 28, none, .app 26 4 56 (.t 20) (.t 27)⟩ (.take ⟨some 29, none, .fa 3 (.t 3)⟩ (.br (.cons ⟨none, none, .st 1 (.t 29) (.t 28)⟩ (.done) (.nil)))) (.nil))) (.nil))) (.cons ⟨some 27, none, .bs 26 4 [.t 26]⟩ (.br (.cons ⟨some 20, none, .ld none (.t 19)⟩ (.br (.cons ⟨some 28, none, .app 26 4 56 (.t 20) (.t 27)⟩ (.take ⟨some 29, none, .fa 3 (.t 3)⟩ (.br (.cons ⟨none, none, .st 1 (.t 29) (.t 28)⟩ (.done) (.nil)))) (.nil))) (.nil))) (.nil)))) (.nil)))))))))) [1, 2, 3, 4])) (.region [⟨some 17, none, .mv (.t 4)⟩, ⟨some 18, none, .bin .add (.t 17) (.c (.d true (.int .i64 1)))⟩, ⟨some 4, none, .mv (.t 18)⟩] [1, 2, 3, 4])))))) (.seq (.region [⟨some 30, none, .ld (some 4) (.t 3)⟩, ⟨none, none, .st 4 (.t 2) (.t 30)⟩] [2]) (.ret))))
theorem ok43 : FnOk Try.prog Try.f43 31 keep43 ac43 [.c 2 (some 4)] := by
  refine ⟨?_, ?_, ?_, ?_, ?_⟩ <;> kernel_rfl

/-! impl.formOk -/
def keep44 : Nat → List Nat
  | 0 => [1]
  | 1 => [1, 14]
  | 2 => [2]
  | 3 => [1, 16]
  | 4 => [1, 16, 17]
  | 5 => [2]
  | 6 => [1, 16, 27]
  | 7 => [2]
  | 8 => [1, 38]
  | 9 => [2]
  | 10 => [2]
  | _ => []
def ac44 : AC := .seq (.region [⟨some 1, none, .box (.t 0)⟩, ⟨some 2, none, .mv (.c (.d true (.bool false)))⟩] [1]) (.seq (.seq (.draw [⟨some 3, none, .fa 3 (.t 1)⟩, ⟨some 4, none, .ld none (.t 3)⟩, ⟨some 5, none, .len (.t 4)⟩, ⟨some 6, none, .fa 0 (.t 1)⟩, ⟨some 7, none, .ld none (.t 6)⟩, ⟨some 8, none, .call (.c (.fn 59 [])) [.t 7]⟩, ⟨some 9, none, .bin .neq (.t 5) (.t 8)⟩, ⟨some 10, none, .mv (.t 9)⟩, ⟨some 11, some (10, false), .fa 3 (.t 1)⟩, ⟨some 12, some (10, false), .ld none (.t 11)⟩, ⟨some 13, some (10, false), .call (.c (.fn 60 [])) [.t 12, .c (.fn 61 [])]⟩, ⟨some 14, none, .pick (.t 10) (.c (.d true (.bool true))) (.t 13)⟩] [1, 14]) (.cond (.t 14) (.seq (.region [⟨some 2, none, .mv (.c (.d true (.bool false)))⟩] [2]) (.ret)) (.skip))) (.seq (.seq (.region [⟨some 15, none, .fa 0 (.t 1)⟩, ⟨some 16, none, .ld none (.t 15)⟩] [1, 16]) (.block 0 (.seq (.region [⟨some 18, none, .bin .eql (.t 16) (.c (.d true (.int .i64 1)))⟩, ⟨some 17, none, .mv (.t 18)⟩] [1, 16, 17]) (.cond (.t 17) (.seq (.region [⟨some 19, none, .fa 1 (.t 1)⟩, ⟨some 20, none, .ld none (.t 19)⟩, ⟨some 21, none, .call (.c (.fn 62 [])) [.t 20, .c (.d true (.int .i64 0)), .c (.d true (.int .i64 1000000))]⟩, ⟨some 22, none, .mv (.t 21)⟩, ⟨some 23, some (22, true), .fa 2 (.t 1)⟩, ⟨some 24, some (22, true), .ld none (.t 23)⟩, ⟨some 25, some (22, true), .bin .eql (.t 24) (.c (.d true (.str ⟨#[]⟩)))⟩, ⟨some 26, none, .pick (.t 22) (.t 25) (.c (.d true (.bool false)))⟩, ⟨some 2, none, .mv (.t 26)⟩] [2]) (.ret)) (.seq (.region [⟨some 28, none, .bin .eql (.t 16) (.c (.d true (.int .i64 2)))⟩, ⟨some 27, none, .mv (.t 28)⟩] [1, 16, 27]) (.cond (.t 27) (.seq (.region [⟨some 29, none, .fa 1 (.t 1)⟩, ⟨some 30, none, .ld none (.t 29)⟩, ⟨some 31, none, .bin .eql (.t 30) (.c (.d true (.int .i64 0)))⟩, ⟨some 32, none, .mv (.t 31)⟩, ⟨some 33, some (32, true), .fa 2 (.t 1)⟩, ⟨some 34, some (32, true), .ld none (.t 33)⟩, ⟨some 35, some (32, true), .slen (.t 34)⟩, ⟨some 36, some (32, true), .bin .leq (.t 35) (.c (.d true (.int .i64 300)))⟩, ⟨some 37, none, .pick (.t 32) (.t 36) (.c (.d true (.bool false)))⟩, ⟨some 2, none, .mv (.t 37)⟩] [2]) (.ret)) (.seq (.region [⟨some 39, none, .bin .eql (.t 16) (.c (.d true (.int .i64 5)))⟩, ⟨some 38, none, .mv (.t 39)⟩] [1, 38]) (.cond (.t 38) (.seq (.draw [⟨some 40, none, .fa 1 (.t 1)⟩, ⟨some 41, none, .ld none (.t 40)⟩, ⟨some 42, none, .bin .eql (.t 41) (.c (.d true (.int .i64 0)))⟩, ⟨some 43, none, .mv (.t 42)⟩, ⟨some 44, some (43, true), .fa 2 (.t 1)⟩, ⟨some 45, some (43, true), .ld none (.t 44)⟩, ⟨some 46, some (43, true), .bin .eql (.t 45) (.c (.d true (.str ⟨#[]⟩)))⟩, ⟨some 47, none, .pick (.t 43) (.t 46) (.c (.d true (.bool false)))⟩, ⟨some 48, none, .mv (.t 47)⟩, ⟨some 49, some (48, true), .fa 3 (.t 1)⟩, ⟨some 50, some (48, true), .ld none (.t 49)⟩, ⟨some 51, some (48, true), .ia 4 (.t 50) (.c (.d true (.int .i64 1)))⟩, ⟨some 52, some (48, true), .ld (some 4) (.t 51)⟩, ⟨some 53, some (48, true), .fa 3 (.t 1)⟩, ⟨some 54, some (48, true), .ld none (.t 53)⟩, ⟨some 55, some (48, true), .ia 4 (.t 54) (.c (.d true (.int .i64 0)))⟩, ⟨some 56, some (48, true), .ld (some 4) (.t 55)⟩, ⟨some 57, some (48, true), .call (.c (.fn 46 [])) [.t 52, .t 56]⟩, ⟨some 58, some (48, true), .not (.t 57)⟩, ⟨some 59, none, .pick (.t 48) (.t 58) (.c (.d true (.bool false)))⟩, ⟨some 2, none, .mv (.t 59)⟩] [2]) (.ret)) (.skip))))))))) (.seq (.region [⟨some 60, none, .fa 1 (.t 1)⟩, ⟨some 61, none, .ld none (.t 60)⟩, ⟨some 62, none, .bin .eql (.t 61) (.c (.d true (.int .i64 0)))⟩, ⟨some 63, none, .mv (.t 62)⟩, ⟨some 64, some (63, true), .fa 2 (.t 1)⟩, ⟨some 65, some (63, true), .ld none (.t 64)⟩, ⟨some 66, some (63, true), .bin .eql (.t 65) (.c (.d true (.str ⟨#[]⟩)))⟩, ⟨some 67, none, .pick (.t 63) (.t 66) (.c (.d true (.bool false)))⟩, ⟨some 2, none, .mv (.t 67)⟩] [2]) (.ret))))
theorem ok44 : FnOk Try.prog Try.f44 68 keep44 ac44 [.t 2] := by
  refine ⟨?_, ?_, ?_, ?_, ?_⟩ <;> kernel_rfl

/-! spec.l1Once -/
def keep45 : Nat → List Nat
  | 0 => [0, 1, 1000000, 1000001]
  | 1 => [4, 1000000, 1000001]
  | _ => []
def ac45 : AC := .seq (.region [⟨some 4, none, .mv (.c (.d true (.bool false)))⟩] [0, 1, 1000000, 1000001]) (.seq (.region [⟨some 5, none, .mv (.t 0)⟩, ⟨some 6, none, .mv (.t 1)⟩, ⟨some 7, none, .call (.c (.fn 56 [])) [.t 5, .t 6]⟩, ⟨some 8, none, .bin .eql (.t 7) (.c (.d true (.int .i64 0)))⟩, ⟨some 4, none, .mv (.t 8)⟩] [4, 1000000, 1000001]) (.ret))
theorem ok45 : FnOk Try.prog Try.f45 9 keep45 ac45 [.t 4] := by
  refine ⟨?_, ?_, ?_, ?_, ?_⟩ <;> kernel_rfl

/-! impl.Before -/
def keep46 : Nat → List Nat
  | 0 => [2, 3]
  | 1 => [2, 3, 7]
  | 2 => [4]
  | 3 => [2, 3, 18]
  | 4 => [4]
  | 5 => [2, 3, 29]
  | 6 => [4]
  | 7 => [2, 3, 40]
  | 8 => [4]
  | 9 => [3, 56, 57, 58]
  | 10 => [3, 56, 57, 58, 59]
  | 11 => [3, 5, 6, 56, 57, 58]
  | 12 => [3, 5, 6, 56, 57, 58, 70]
  | 13 => [4]
  | 14 => [3, 56, 57, 58]
  | 15 => [4]
  | _ => []
def ac46 : AC := .seq (.region [⟨some 2, none, .box (.t 0)⟩, ⟨some 3, none, .box (.t 1)⟩, ⟨some 4, none, .mv (.c (.d true (.bool false)))⟩] [2, 3]) (.seq (.block 0 (.seq (.region [⟨some 8, none, .fa 0 (.t 2)⟩, ⟨some 9, none, .ld none (.t 8)⟩, ⟨some 10, none, .fa 0 (.t 3)⟩, ⟨some 11, none, .ld none (.t 10)⟩, ⟨some 12, none, .bin .neq (.t 9) (.t 11)⟩, ⟨some 7, none, .mv (.t 12)⟩] [2, 3, 7]) (.cond (.t 7) (.seq (.region [⟨some 13, none, .fa 0 (.t 2)⟩, ⟨some 14, none, .ld none (.t 13)⟩, ⟨some 15, none, .fa 0 (.t 3)⟩, ⟨some 16, none, .ld none (.t 15)⟩, ⟨some 17, none, .bin .lss (.t 14) (.t 16)⟩, ⟨some 4, none, .mv (.t 17)⟩] [4]) (.ret)) (.seq (.region [⟨some 19, none, .fa 1 (.t 2)⟩, ⟨some 20, none, .ld none (.t 19)⟩, ⟨some 21, none, .fa 1 (.t 3)⟩, ⟨some 22, none, .ld none (.t 21)⟩, ⟨some 23, none, .bin .neq (.t 20) (.t 22)⟩, ⟨some 18, none, .mv (.t 23)⟩] [2, 3, 18]) (.cond (.t 18) (.seq (.region [⟨some 24, none, .fa 1 (.t 2)⟩, ⟨some 25, none, .ld none (.t 24)⟩, ⟨some 26, none, .fa 1 (.t 3)⟩, ⟨some 27, none, .ld none (.t 26)⟩, ⟨some 28, none, .bin .lss (.t 25) (.t 27)⟩, ⟨some 4, none, .mv (.t 28)⟩] [4]) (.ret)) (.seq (.region [⟨some 30, none, .fa 2 (.t 2)⟩, ⟨some 31, none, .ld none (.t 30)⟩, ⟨some 32, none, .fa 2 (.t 3)⟩, ⟨some 33, none, .ld none (.t 32)⟩, ⟨some 34, none, .bin .neq (.t 31) (.t 33)⟩, ⟨some 29, none, .mv (.t 34)⟩] [2, 3, 29]) (.cond (.t 29) (.seq (.region [⟨some 35, none, .fa 2 (.t 2)⟩, ⟨some 36, none, .ld none (.t 35)⟩, ⟨some 37, none, .fa 2 (.t 3)⟩, ⟨some 38, none, .ld none (.t 37)⟩, ⟨some 39, none, .bin .lss (.t 36) (.t 38)⟩, ⟨some 4, none, .mv (.t 39)⟩] [4]) (.ret)) (.seq (.region [⟨some 41, none, .fa 3 (.t 2)⟩, ⟨some 42, none, .ld none (.t 41)⟩, ⟨some 43, none, .len (.t 42)⟩, ⟨some 44, none, .fa 3 (.t 3)⟩, ⟨some 45, none, .ld none (.t 44)⟩, ⟨some 46, none, .len (.t 45)⟩, ⟨some 47, none, .bin .neq (.t 43) (.t 46)⟩, ⟨some 40, none, .mv (.t 47)⟩] [2, 3, 40]) (.cond (.t 40) (.seq (.region [⟨some 48, none, .fa 3 (.t 2)⟩, ⟨some 49, none, .ld none (.t 48)⟩, ⟨some 50, none, .len (.t 49)⟩, ⟨some 51, none, .fa 3 (.t 3)⟩, ⟨some 52, none, .ld none (.t 51)⟩, ⟨some 53, none, .len (.t 52)⟩, ⟨some 54, none, .bin .lss (.t 50) (.t 53)⟩, ⟨some 4, none, .mv (.t 54)⟩] [4]) (.ret)) (.skip)))))))))) (.seq (.seq (.region [⟨some 55, none, .fa 3 (.t 2)⟩, ⟨some 56, none, .ld none (.t 55)⟩, ⟨some 57, none, .len (.t 56)⟩, ⟨some 58, none, .mv (.c (.d true (.int .i64 0)))⟩] [3, 56, 57, 58]) (.block 1 (.loop (.seq (.region [⟨some 59, none, .bin .lss (.t 58) (.t 57)⟩] [3, 56, 57, 58, 59]) (.seq (.cond (.t 59) (.skip) (.exit 1)) (.seq (.block 2 (.seq (.region [⟨some 60, none, .mv (.t 58)⟩, ⟨some 61, none, .ia 4 (.t 56) (.t 58)⟩, ⟨some 62, none, .ld (some 4) (.t 61)⟩, ⟨some 6, none, .alloc [.d true (.int .i64 0), .d true (.int .i64 0), .d true (.str ⟨#[]⟩), .nil]⟩, ⟨some 5, none, .mv (.t 60)⟩, ⟨none, none, .st 4 (.t 6) (.t 62)⟩] [3, 5, 6, 56, 57, 58]) (.seq (.draw [⟨some 63, none, .ld (some 4) (.t 6)⟩, ⟨some 64, none, .fa 3 (.t 3)⟩, ⟨some 65, none, .ld none (.t 64)⟩, ⟨some 66, none, .mv (.t 5)⟩, ⟨some 67, none, .ia 4 (.t 65) (.t 66)⟩, ⟨some 68, none, .ld (some 4) (.t 67)⟩, ⟨some 69, none, .call (.c (.fn 15 [])) [.t 63, .t 68]⟩, ⟨some 70, none, .not (.t 69)⟩] [3, 5, 6, 56, 57, 58, 70]) (.cond (.t 70) (.seq (.draw [⟨some 71, none, .ld (some 4) (.t 6)⟩, ⟨some 72, none, .fa 3 (.t 3)⟩, ⟨some 73, none, .ld none (.t 72)⟩, ⟨some 74, none, .mv (.t 5)⟩, ⟨some 75, none, .ia 4 (.t 73) (.t 74)⟩, ⟨some 76, none, .ld (some 4) (.t 75)⟩, ⟨some 77, none, .call (.c (.fn 46 [])) [.t 71, .t 76]⟩, ⟨some 4, none, .mv (.t 77)⟩] [4]) (.ret)) (.skip))))) (.region [⟨some 78, none, .bin .add (.t 58) (.c (.d true (.int .i64 1)))⟩, ⟨some 58, none, .mv (.t 78)⟩] [3, 56, 57, 58]))))))) (.seq (.region [⟨some 4, none, .mv (.c (.d true (.bool false)))⟩] [4]) (.ret))))
theorem ok46 : FnOk Try.prog Try.f46 79 keep46 ac46 [.t 4] := by
  refine ⟨?_, ?_, ?_, ?_, ?_⟩ <;> kernel_rfl

/-! spec.TermOk -/
def keep47 : Nat → List Nat
  | 0 => [1]
  | 1 => [2]
  | _ => []
def ac47 : AC := .seq (.region [⟨some 1, none, .box (.t 0)⟩, ⟨some 2, none, .mv (.c (.d true (.bool false)))⟩] [1]) (.seq (.region [⟨some 3, none, .ld (some 4) (.t 1)⟩, ⟨some 4, none, .call (.c (.fn 63 [])) [.t 3]⟩, ⟨some 5, none, .bin .leq (.t 4) (.c (.d true (.int .i64 200)))⟩, ⟨some 6, none, .mv (.t 5)⟩, ⟨some 7, some (6, true), .ld (some 4) (.t 1)⟩, ⟨some 8, some (6, true), .call (.c (.fn 64 [])) [.t 7]⟩, ⟨some 9, none, .pick (.t 6) (.t 8) (.c (.d true (.bool false)))⟩, ⟨some 2, none, .mv (.t 9)⟩] [2]) (.ret))
theorem ok47 : FnOk Try.prog Try.f47 10 keep47 ac47 [.t 2] := by
  refine ⟨?_, ?_, ?_, ?_, ?_⟩ <;> kernel_rfl

/-! spec.Before -/
def keep48 : Nat → List Nat
  | 0 => [2, 3]
  | 1 => [2, 3, 6]
  | 2 => [4]
  | 3 => [2, 3, 17]
  | 4 => [4]
  | 5 => [2, 3, 28]
  | 6 => [4]
  | 7 => [2, 3, 39]
  | 8 => [4]
  | 9 => [2, 3, 5]
  | 10 => [2, 3, 5, 58]
  | 11 => [2, 3, 5]
  | 12 => [2, 3, 5, 72]
  | 13 => [4]
  | 14 => [4]
  | _ => []
def ac48 : AC := .seq (.region [⟨some 2, none, .box (.t 0)⟩, ⟨some 3, none, .box (.t 1)⟩, ⟨some 4, none, .mv (.c (.d true (.bool false)))⟩] [2, 3]) (.seq (.block 0 (.seq (.region [⟨some 7, none, .fa 0 (.t 2)⟩, ⟨some 8, none, .ld none (.t 7)⟩, ⟨some 9, none, .fa 0 (.t 3)⟩, ⟨some 10, none, .ld none (.t 9)⟩, ⟨some 11, none, .bin .neq (.t 8) (.t 10)⟩, ⟨some 6, none, .mv (.t 11)⟩] [2, 3, 6]) (.cond (.t 6) (.seq (.region [⟨some 12, none, .fa 0 (.t 2)⟩, ⟨some 13, none, .ld none (.t 12)⟩, ⟨some 14, none, .fa 0 (.t 3)⟩, ⟨some 15, none, .ld none (.t 14)⟩, ⟨some 16, none, .bin .lss (.t 13) (.t 15)⟩, ⟨some 4, none, .mv (.t 16)⟩] [4]) (.ret)) (.seq (.region [⟨some 18, none, .fa 1 (.t 2)⟩, ⟨some 19, none, .ld none (.t 18)⟩, ⟨some 20, none, .fa 1 (.t 3)⟩, ⟨some 21, none, .ld none (.t 20)⟩, ⟨some 22, none, .bin .neq (.t 19) (.t 21)⟩, ⟨some 17, none, .mv (.t 22)⟩] [2, 3, 17]) (.cond (.t 17) (.seq (.region [⟨some 23, none, .fa 1 (.t 2)⟩, ⟨some 24, none, .ld none (.t 23)⟩, ⟨some 25, none, .fa 1 (.t 3)⟩, ⟨some 26, none, .ld none (.t 25)⟩, ⟨some 27, none, .bin .lss (.t 24) (.t 26)⟩, ⟨some 4, none, .mv (.t 27)⟩] [4]) (.ret)) (.seq (.region [⟨some 29, none, .fa 2 (.t 2)⟩, ⟨some 30, none, .ld none (.t 29)⟩, ⟨some 31, none, .fa 2 (.t 3)⟩, ⟨some 32, none, .ld none (.t 31)⟩, ⟨some 33, none, .bin .neq (.t 30) (.t 32)⟩, ⟨some 28, none, .mv (.t 33)⟩] [2, 3, 28]) (.cond (.t 28) (.seq (.region [⟨some 34, none, .fa 2 (.t 2)⟩, ⟨some 35, none, .ld none (.t 34)⟩, ⟨some 36, none, .fa 2 (.t 3)⟩, ⟨some 37, none, .ld none (.t 36)⟩, ⟨some 38, none, .bin .lss (.t 35) (.t 37)⟩, ⟨some 4, none, .mv (.t 38)⟩] [4]) (.ret)) (.seq (.region [⟨some 40, none, .fa 3 (.t 2)⟩, ⟨some 41, none, .ld none (.t 40)⟩, ⟨some 42, none, .len (.t 41)⟩, ⟨some 43, none, .fa 3 (.t 3)⟩, ⟨some 44, none, .ld none (.t 43)⟩, ⟨some 45, none, .len (.t 44)⟩, ⟨some 46, none, .bin .neq (.t 42) (.t 45)⟩, ⟨some 39, none, .mv (.t 46)⟩] [2, 3, 39]) (.cond (.t 39) (.seq (.region [⟨some 47, none, .fa 3 (.t 2)⟩, ⟨some 48, none, .ld none (.t 47)⟩, ⟨some 49, none, .len (.t 48)⟩, ⟨some 50, none, .fa 3 (.t 3)⟩, ⟨some 51, none, .ld none (.t 50)⟩, ⟨some 52, none, .len (.t 51)⟩, ⟨some 53, none, .bin .lss (.t 49) (.t 52)⟩, ⟨some 4, none, .mv (.t 53)⟩] [4]) (.ret)) (.skip)))))))))) (.seq (.seq (.region [⟨some 5, none, .mv (.c (.d true (.int .i64 0)))⟩] [2, 3, 5]) (.block 1 (.loop (.seq (.seq (.region [⟨some 54, none, .mv (.t 5)⟩, ⟨some 55, none, .fa 3 (.t 2)⟩, ⟨some 56, none, .ld none (.t 55)⟩, ⟨some 57, none, .len (.t 56)⟩, ⟨some 58, none, .bin .lss (.t 54) (.t 57)⟩] [2, 3, 5, 58]) (.cond (.t 58) (.skip) (.exit 1))) (.seq (.block 2 (.seq (.draw [⟨some 61, none, .fa 3 (.t 2)⟩, ⟨some 62, none, .ld none (.t 61)⟩, ⟨some 63, none, .mv (.t 5)⟩, ⟨some 64, none, .ia 4 (.t 62) (.t 63)⟩, ⟨some 65, none, .ld (some 4) (.t 64)⟩, ⟨some 66, none, .fa 3 (.t 3)⟩, ⟨some 67, none, .ld none (.t 66)⟩, ⟨some 68, none, .mv (.t 5)⟩, ⟨some 69, none, .ia 4 (.t 67) (.t 68)⟩, ⟨some 70, none, .ld (some 4) (.t 69)⟩, ⟨some 71, none, .call (.c (.fn 53 [])) [.t 65, .t 70]⟩, ⟨some 72, none, .not (.t 71)⟩] [2, 3, 5, 72]) (.cond (.t 72) (.seq (.draw [⟨some 73, none, .fa 3 (.t 2)⟩, ⟨some 74, none, .ld none (.t 73)⟩, ⟨some 75, none, .mv (.t 5)⟩, ⟨some 76, none, .ia 4 (.t 74) (.t 75)⟩, ⟨some 77, none, .ld (some 4) (.t 76)⟩, ⟨some 78, none, .fa 3 (.t 3)⟩, ⟨some 79, none, .ld none (.t 78)⟩, ⟨some 80, none, .mv (.t 5)⟩, ⟨some 81, none, .ia 4 (.t 79) (.t 80)⟩, ⟨some 82, none, .ld (some 4) (.t 81)⟩, ⟨some 83, none, .call (.c (.fn 48 [])) [.t 77, .t 82]⟩, ⟨some 4, none, .mv (.t 83)⟩] [4]) (.ret)) (.skip)))) (.region [⟨some 59, none, .mv (.t 5)⟩, ⟨some 60, none, .bin .add (.t 59) (.c (.d true (.int .i64 1)))⟩, ⟨some 5, none, .mv (.t 60)⟩] [2, 3, 5])))))) (.seq (.region [⟨some 4, none, .mv (.c (.d true (.bool false)))⟩] [4]) (.ret))))
theorem ok48 : FnOk Try.prog Try.f48 84 keep48 ac48 [.t 4] := by
  refine ⟨?_, ?_, ?_, ?_, ?_⟩ <;> kernel_rfl

/-! spec.l2Draw -/
def keep49 : Nat → List Nat
  | 0 => [0, 1000000, 1000001]
  | 1 => [0, 3, 1000000, 1000001]
  | 2 => [0, 3, 4, 1000000, 1000001]
  | 3 => [0, 3, 4, 9, 1000000, 1000001]
  | 4 => [0, 3, 4, 1000000, 1000001]
  | 5 => [0, 3, 4, 1000000, 1000001]
  | 6 => [2, 1000000, 1000001]
  | _ => []
def ac49 : AC := .seq (.region [⟨some 2, none, .own 26 4⟩] [0, 1000000, 1000001]) (.seq (.region [⟨some 5, none, .bs 26 4 []⟩, ⟨some 3, none, .mv (.t 5)⟩] [0, 3, 1000000, 1000001]) (.seq (.seq (.region [⟨some 4, none, .mv (.c (.d true (.int .i64 0)))⟩] [0, 3, 4, 1000000, 1000001]) (.block 0 (.loop (.seq (.seq (.region [⟨some 6, none, .mv (.t 4)⟩, ⟨some 7, none, .mv (.t 0)⟩, ⟨some 8, none, .call (.c (.fn 56 [])) [.t 7, .c (.d true (.int .i64 6))]⟩, ⟨some 9, none, .bin .lss (.t 6) (.t 8)⟩] [0, 3, 4, 9, 1000000, 1000001]) (.cond (.t 9) (.skip) (.exit 0))) (.seq (.block 1 (.region [⟨some 12, none, .mv (.t 3)⟩, ⟨some 13, none, .mv (.t 0)⟩, ⟨some 14, none, .call (.c (.fn 38 [])) [.t 13]⟩, ⟨some 15, none, .bs 26 4 [.t 14]⟩, ⟨some 16, none, .app 26 4 56 (.t 12) (.t 15)⟩, ⟨some 3, none, .mv (.t 16)⟩] [0, 3, 4, 1000000, 1000001])) (.region [⟨some 10, none, .mv (.t 4)⟩, ⟨some 11, none, .bin .add (.t 10) (.c (.d true (.int .i64 1)))⟩, ⟨some 4, none, .mv (.t 11)⟩] [0, 3, 4, 1000000, 1000001])))))) (.seq (.region [⟨some 17, none, .mv (.t 3)⟩, ⟨some 2, none, .mv (.t 17)⟩] [2, 1000000, 1000001]) (.ret))))
theorem ok49 : FnOk Try.prog Try.f49 18 keep49 ac49 [.t 2] := by
  refine ⟨?_, ?_, ?_, ?_, ?_⟩ <;> kernel_rfl

/-! (*impl.knower).add -/
def keep50 : Nat → List Nat
  | 0 => [0, 3, 1000000, 1000001]
  | 1 => [0, 3, 18, 1000000, 1000001]
  | 2 => [4, 1000000, 1000001]
  | 3 => [1000000, 1000001]
  | 4 => [4, 1000000, 1000001]
  | 1000003 => [1]
  | _ => []
def ac50 : AC := .seq (.region [⟨some 3, none, .box (.t 1)⟩, ⟨some 4, none, .mv (.c (.d true (.bool false)))⟩] [0, 3, 1000000, 1000001]) (.seq (.seq (.draw [⟨some 5, none, .mv (.t 0)⟩, ⟨some 6, none, .ck (.t 5)⟩, ⟨some 7, none, .fa 0 (.t 6)⟩, ⟨some 8, none, .ld none (.t 7)⟩, ⟨some 9, none, .len (.t 8)⟩, ⟨some 10, none, .bin .geq (.t 9) (.c (.d true (.int .i64 300)))⟩, ⟨some 11, none, .mv (.t 10)⟩, ⟨some 12, some (11, false), .mv (.t 0)⟩, ⟨some 13, some (11, false), .ck (.t 12)⟩, ⟨some 14, some (11, false), .fa 0 (.t 13)⟩, ⟨some 15, some (11, false), .ld none (.t 14)⟩, ⟨some 16, some (11, false), .ld (some 4) (.t 3)⟩, ⟨some 17, some (11, false), .call (.c (.fn 65 [])) [.t 15, .t 16]⟩, ⟨some 18, none, .pick (.t 11) (.c (.d true (.bool true))) (.t 17)⟩] [0, 3, 18, 1000000, 1000001]) (.cond (.t 18) (.seq (.region [⟨some 4, none, .mv (.c (.d true (.bool false)))⟩] [4, 1000000, 1000001]) (.ret)) (.skip))) (.seq (.tree (.take ⟨some 19, none, .mv (.t 0)⟩ (.take ⟨some 20, none, .ck (.t 19)⟩ (.take ⟨some 21, none, .fa 0 (.t 20)⟩ (.take ⟨some 23, none, .ld (some 4) (.t 3)⟩ (.br (.cons ⟨some 22, none, .ld none (.t 21)⟩ (.take ⟨some 25, none, .len (.t 22)⟩ (.br (.cons ⟨some 24, none, .call (.c (.fn 58 [])) [.t 23]⟩ (.br (.cons ⟨some 26, none, .bs 26 4 [.c (.agg [.d true (.int .i64 0), .d true (.int .i64 0), .d true (.str ⟨#[]⟩), .nil])]⟩ (.br (.cons ⟨some 27, none, .app 26 4 56 (.t 22) (.t 26)⟩ (.take ⟨some 28, none, .ia 4 (.t 27) (.t 25)⟩ (.take ⟨some 29, none, .ck (.t 19)⟩ (.take ⟨some 30, none, .fa 0 (.t 29)⟩ (.br (.cons ⟨none, none, .st 4 (.t 28) (.t 24)⟩ (.br (.cons ⟨none, none, .st 1 (.t 30) (.t 27)⟩ (.done) (.nil))) (.cons ⟨none, none, .st 1 (.t 30) (.t 27)⟩ (.br (.cons ⟨none, none, .st 4 (.t 28) (.t 24)⟩ (.done) (.nil))) (.nil))))))) (.nil))) (.nil))) (.cons ⟨some 26, none, .bs 26 4 [.c (.agg [.d true (.int .i64 0), .d true (.int .i64 0), .d true (.str ⟨#[]⟩), .nil])]⟩ (.br (.cons ⟨some 24, none, .call (.c (.fn 58 [])) [.t 23]⟩ (.br (.cons ⟨some 27, none, .app 26 4 56 (.t 22) (.t 26)⟩ (.take ⟨some 28, none, .ia 4 (.t 27) (.t 25)⟩ (.take ⟨some 29, none, .ck (.t 19)⟩ (.take ⟨some 30, none, .fa 0 (.t 29)⟩ (.br (.cons ⟨none, none, .st 4 (.t 28) (.t 24)⟩ (.br (.cons ⟨none, none, .st 1 (.t 30) (.t 27)⟩ (.done) (.nil))) (.cons ⟨none, none, .st 1 (.t 30) (.t 27)⟩ (.br (.cons ⟨none, none, .st 4 (.t 28) (.t 24)⟩ (.done) (.nil))) (.nil))))))) (.nil))) (.nil))) (.nil))))) (.cons ⟨some 24, none, .call (.c (.fn 58 [])) [.t 23]⟩ (.br (.cons ⟨some 22, none, .ld none (.t 21)⟩ (.take ⟨some 25, none, .len (.t 22)⟩ (.br (.cons ⟨some 26, none, .bs 26 4 [.c (.agg [.d true (.int .i64 0), .d true (.int .i64 0), .d true (.str ⟨#[]⟩), .nil])]⟩ (.br (.cons ⟨some 27, none, .app 26 4 56 (.t 22) (.t 26)⟩ (.take ⟨some 28, none, .ia 4 (.t 27) (.t 25)⟩ (.take ⟨some 29, none, .ck (.t 19)⟩ (.take ⟨some 30, none, .fa 0 (.t 29)⟩ (.br (.cons ⟨none, none, .st 4 (.t 28) (.t 24)⟩ (.br (.cons ⟨none, none, .st 1 (.t 30) (.t 27)⟩ (.done) (.nil))) (.cons ⟨none, none, .st 1 (.t 30) (.t 27)⟩ (.br (.cons ⟨none, none, .st 4 (.t 28) (.t 24)⟩ (.done) (.nil))) (.nil))))))) (.nil))) (.nil)))) (.cons ⟨some 26, none, .bs 26 4 [.c (.agg [.d true (.int .i64 0), .d true (.int .i64 0), .d true (.str ⟨#[]⟩), .nil])]⟩ (.br (.cons ⟨some 22, none, .ld none (.t 21)⟩ (.take ⟨some 25, none, .len (.t 22)⟩ (.br (.cons ⟨some 27, none, .app 26 4 56 (.t 22) (.t 26)⟩ (.take ⟨some 28, none, .ia 4 (.t 27) (.t 25)⟩ (.take ⟨some 29, none, .ck (.t 19)⟩ (.take ⟨some 30, none, .fa 0 (.t 29)⟩ (.br (.cons ⟨none, none, .st 4 (.t 28) (.t 24)⟩ (.br (.cons ⟨none, none, .st 1 (.t 30) (.t 27)⟩ (.done) (.nil))) (.cons ⟨none, none, .st 1 (.t 30) (.t 27)⟩ (.br (.cons ⟨none, none, .st 4 (.t 28) (.t 24)⟩ (.done) (.nil))) (.nil))))))) (.nil)))) (.nil))) (.nil)))) (.cons ⟨some 26, none, .bs 26 4 [.c (.agg [.d true (.int .i64 0), .d true (.int .i64 0), .d true (.str ⟨#[]⟩), .nil])]⟩ (.br (.cons ⟨some 22, none, .ld none (.t 21)⟩ (.take ⟨some 25, none, .len (.t 22)⟩ (.br (.cons ⟨some 24, none, .call (.c (.fn 58 [])) [.t 23]⟩ (.br (.cons ⟨some 27, none, .app 26 4 56 (.t 22) (.t 26)⟩ (.take ⟨some 28, none, .ia 4 (.t 27) (.t 25)⟩ (.take ⟨some 29, none, .ck (.t 19)⟩ (.take ⟨some 30, none, .fa 0 (.t 29)⟩ (.br (.cons ⟨none, none, .st 4 (.t 28) (.t 24)⟩ (.br (.cons ⟨none, none, .st 1 (.t 30) (.t 27)⟩ (.done) (.nil))) (.cons ⟨none, none, .st 1 (.t 30) (.t 27)⟩ (.br (.cons ⟨none, none, .st 4 (.t 28) (.t 24)⟩ (.done) (.nil))) (.nil))))))) (.nil))) (.nil)))) (.cons ⟨some 24, none, .call (.c (.fn 58 [])) [.t 23]⟩ (.br (.cons ⟨some 22, none, .ld none (.t 21)⟩ (.take ⟨some 25, none, .len (.t 22)⟩ (.br (.cons ⟨some 27, none, .app 26 4 56 (.t 22) (.t 26)⟩ (.take ⟨some 28, none, .ia 4 (.t 27) (.t 25)⟩ (.take ⟨some 29, none, .ck (.t 19)⟩ (.take ⟨some 30, none, .fa 0 (.t 29)⟩ (.br (.cons ⟨none, none, .st 4 (.t 28) (.t 24)⟩ (.br (.cons ⟨none, none, .st 1 (.t 30) (.t 27)⟩ (.done) (.nil))) (.cons ⟨none, none, .st 1 (.t 30) (.t 27)⟩ (.br (.cons ⟨none, none, .st 4 (.t 28) (.t 24)⟩ (.done) (.nil))) (.nil))))))) (.nil)))) (.nil))) (.nil)))) (.nil))))))))) [1000000, 1000001]) (.seq (.region [⟨some 4, none, .mv (.c (.d true (.bool true)))⟩] [4, 1000000, 1000001]) (.ret))))
theorem ok50 : FnOk Try.prog Try.f50 31 keep50 ac50 [.t 4] := by
  refine ⟨?_, ?_, ?_, ?_, ?_⟩ <;> kernel_rfl

/-! (*impl.knower).apart -/
def keep51 : Nat → List Nat
  | 0 => [0, 3, 1000000, 1000001]
  | 1 => [0, 3, 5, 1000000, 1000001]
  | 2 => [4, 1000000, 1000001]
  | 3 => [0, 3, 11, 1000000, 1000001]
  | 4 => [3, 11, 1000000, 1000001]
  | 5 => [4, 1000000, 1000001]
  | 6 => [4, 1000000, 1000001]
  | _ => []
def ac51 : AC := .seq (.region [⟨some 3, none, .box (.t 1)⟩, ⟨some 4, none, .own 26 4⟩] [0, 3, 1000000, 1000001]) (.seq (.block 0 (.seq (.region [⟨some 6, none, .fa 0 (.t 3)⟩, ⟨some 7, none, .ld none (.t 6)⟩, ⟨some 8, none, .bin .eql (.t 7) (.c (.d true (.int .i64 3)))⟩, ⟨some 5, none, .mv (.t 8)⟩] [0, 3, 5, 1000000, 1000001]) (.cond (.t 5) (.seq (.region [⟨some 9, none, .fa 3 (.t 3)⟩, ⟨some 10, none, .ld none (.t 9)⟩, ⟨some 4, none, .mv (.t 10)⟩] [4, 1000000, 1000001]) (.ret)) (.seq (.seq (.region [⟨some 12, none, .fa 0 (.t 3)⟩, ⟨some 13, none, .ld none (.t 12)⟩, ⟨some 14, none, .bin .eql (.t 13) (.c (.d true (.int .i64 8)))⟩, ⟨some 11, none, .mv (.t 14)⟩] [0, 3, 11, 1000000, 1000001]) (.cond (.t 11) (.skip) (.draw [⟨some 15, none, .fa 0 (.t 3)⟩, ⟨some 16, none, .ld none (.t 15)⟩, ⟨some 17, none, .bin .eql (.t 16) (.c (.d true (.int .i64 7)))⟩, ⟨some 18, none, .mv (.t 17)⟩, ⟨some 19, some (18, true), .mv (.t 0)⟩, ⟨some 20, some (18, true), .ck (.t 19)⟩, ⟨some 21, some (18, true), .fa 0 (.t 20)⟩, ⟨some 22, some (18, true), .ld none (.t 21)⟩, ⟨some 23, some (18, true), .fa 3 (.t 3)⟩, ⟨some 24, some (18, true), .ld none (.t 23)⟩, ⟨some 25, some (18, true), .ia 4 (.t 24) (.c (.d true (.int .i64 0)))⟩, ⟨some 26, some (18, true), .ld (some 4) (.t 25)⟩, ⟨some 27, some (18, true), .call (.c (.fn 33 [])) [.t 22, .t 26]⟩, ⟨some 28, none, .pick (.t 18) (.t 27) (.c (.d true (.bool false)))⟩, ⟨some 11, none, .mv (.t 28)⟩] [3, 11, 1000000, 1000001]))) (.cond (.t 11) (.seq (.region [⟨some 29, none, .fa 3 (.t 3)⟩, ⟨some 30, none, .ld none (.t 29)⟩, ⟨some 31, none, .slc 4 (.t 30) (some (.c (.d true (.int .i64 1)))) none⟩, ⟨some 4, none, .mv (.t 31)⟩] [4, 1000000, 1000001]) (.ret)) (.skip)))))) (.seq (.region [⟨some 4, none, .own 26 4⟩] [4, 1000000, 1000001]) (.ret)))
theorem ok51 : FnOk Try.prog Try.f51 32 keep51 ac51 [.t 4] := by
  refine ⟨?_, ?_, ?_, ?_, ?_⟩ <;> kernel_rfl

/-! spec.l2Made -/
def keep52 : Nat → List Nat
  | 0 => [0, 3]
  | 1 => [0, 3, 15]
  | 2 => [4]
  | 3 => [0, 3, 18]
  | 4 => [4]
  | 5 => [0, 3, 21]
  | 6 => [0, 5, 6]
  | 7 => [4]
  | 8 => [0, 3, 7]
  | 9 => [0, 3, 7, 54]
  | 10 => [0, 3, 7]
  | 11 => [0, 3, 7, 64]
  | 12 => [4]
  | 13 => [4]
  | 1000006 => [1]
  | _ => []
def ac52 : AC := .seq (.region [⟨some 3, none, .box (.t 1)⟩, ⟨some 4, none, .mv (.c (.d true (.bool false)))⟩] [0, 3]) (.seq (.seq (.region [⟨some 8, none, .fa 0 (.t 3)⟩, ⟨some 9, none, .ld none (.t 8)⟩, ⟨some 10, none, .bin .eql (.t 9) (.c (.d true (.int .i64 2)))⟩, ⟨some 11, none, .mv (.t 10)⟩, ⟨some 12, some (11, false), .mv (.t 0)⟩, ⟨some 13, some (11, false), .ld (some 4) (.t 3)⟩, ⟨some 14, some (11, false), .call (.c (.fn 66 [])) [.t 12, .t 13]⟩, ⟨some 15, none, .pick (.t 11) (.c (.d true (.bool true))) (.t 14)⟩] [0, 3, 15]) (.cond (.t 15) (.seq (.region [⟨some 4, none, .mv (.c (.d true (.bool true)))⟩] [4]) (.ret)) (.skip))) (.seq (.seq (.region [⟨some 16, none, .fa 0 (.t 3)⟩, ⟨some 17, none, .ld none (.t 16)⟩, ⟨some 18, none, .bin .eql (.t 17) (.c (.d true (.int .i64 1)))⟩] [0, 3, 18]) (.cond (.t 18) (.seq (.region [⟨some 4, none, .mv (.c (.d true (.bool false)))⟩] [4]) (.ret)) (.skip))) (.seq (.seq (.region [⟨some 19, none, .fa 0 (.t 3)⟩, ⟨some 20, none, .ld none (.t 19)⟩, ⟨some 21, none, .bin .eql (.t 20) (.c (.d true (.int .i64 5)))⟩] [0, 3, 21]) (.cond (.t 21) (.seq (.tree (.take ⟨some 22, none, .fa 3 (.t 3)⟩ (.take ⟨some 23, none, .ld none (.t 22)⟩ (.take ⟨some 24, none, .ia 4 (.t 23) (.c (.d true (.int .i64 0)))⟩ (.take ⟨some 25, none, .ld (some 4) (.t 24)⟩ (.take ⟨some 26, none, .fa 3 (.t 3)⟩ (.take ⟨some 27, none, .ld none (.t 26)⟩ (.take ⟨some 28, none, .ia 4 (.t 27) (.c (.d true (.int .i64 1)))⟩ (.take ⟨some 29, none, .ld (some 4) (.t 28)⟩ (.br (.cons ⟨some 5, none, .alloc [.d true (.int .i64 0), .d true (.int .i64 0), .d true (.str ⟨#[]⟩), .nil]⟩ (.br (.cons ⟨some 6, none, .alloc [.d true (.int .i64 0), .d true (.int .i64 0), .d true (.str ⟨#[]⟩), .nil]⟩ (.br (.cons ⟨none, none, .st 4 (.t 5) (.t 25)⟩ (.br (.cons ⟨none, none, .st 4 (.t 6) (.t 29)⟩ (.done) (.nil))) (.nil))) (.nil))) (.cons ⟨some 6, none, .alloc [.d true (.int .i64 0), .d true (.int .i64 0), .d true (.str ⟨#[]⟩), .nil]⟩ (.br (.cons ⟨some 5, none, .alloc [.d true (.int .i64 0), .d true (.int .i64 0), .d true (.str ⟨#[]⟩), .nil]⟩ (.br (.cons ⟨none, none, .st 4 (.t 5) (.t 25)⟩ (.br (.cons ⟨none, none, .st 4 (.t 6) (.t 29)⟩ (.done) (.nil))) (.nil))) (.nil))) (.nil)))))))))))) [0, 5, 6]) (.seq (.region [⟨some 30, none, .mv (.t 0)⟩, ⟨some 31, none, .ld (some 4) (.t 5)⟩, ⟨some 32, none, .call (.c (.fn 52 [])) [.t 30, .t 31]⟩, ⟨some 33, none, .mv (.t 32)⟩, ⟨some 34, some (33, true), .mv (.t 0)⟩, ⟨some 35, some (33, true), .ld (some 4) (.t 6)⟩, ⟨some 36, some (33, true), .call (.c (.fn 67 [])) [.t 35]⟩, ⟨some 37, some (33, true), .call (.c (.fn 52 [])) [.t 34, .t 36]⟩, ⟨some 38, none, .pick (.t 33) (.t 37) (.c (.d true (.bool false)))⟩, ⟨some 39, none, .mv (.t 38)⟩, ⟨some 40, some (39, false), .mv (.t 0)⟩, ⟨some 41, some (39, false), .ld (some 4) (.t 6)⟩, ⟨some 42, some (39, false), .call (.c (.fn 52 [])) [.t 40, .t 41]⟩, ⟨some 43, some (39, false), .mv (.t 42)⟩, ⟨some 44, some (43, true), .mv (.t 0)⟩, ⟨some 45, some (43, true), .ld (some 4) (.t 5)⟩, ⟨some 46, some (43, true), .call (.c (.fn 67 [])) [.t 45]⟩, ⟨some 47, some (43, true), .call (.c (.fn 52 [])) [.t 44, .t 46]⟩, ⟨some 48, some (39, false), .pick (.t 43) (.t 47) (.c (.d true (.bool false)))⟩, ⟨some 49, none, .pick (.t 39) (.c (.d true (.bool true))) (.t 48)⟩, ⟨some 4, none, .mv (.t 49)⟩] [4]) (.ret))) (.skip))) (.seq (.seq (.region [⟨some 7, none, .mv (.c (.d true (.int .i64 0)))⟩] [0, 3, 7]) (.block 0 (.loop (.seq (.seq (.region [⟨some 50, none, .mv (.t 7)⟩, ⟨some 51, none, .fa 3 (.t 3)⟩, ⟨some 52, none, .ld none (.t 51)⟩, ⟨some 53, none, .len (.t 52)⟩, ⟨some 54, none, .bin .lss (.t 50) (.t 53)⟩] [0, 3, 7, 54]) (.cond (.t 54) (.skip) (.exit 0))) (.seq (.block 1 (.seq (.region [⟨some 57, none, .mv (.t 0)⟩, ⟨some 58, none, .fa 3 (.t 3)⟩, ⟨some 59, none, .ld none (.t 58)⟩, ⟨some 60, none, .mv (.t 7)⟩, ⟨some 61, none, .ia 4 (.t 59) (.t 60)⟩, ⟨some 62, none, .ld (some 4) (.t 61)⟩, ⟨some 63, none, .call (.c (.fn 52 [])) [.t 57, .t 62]⟩, ⟨some 64, none, .not (.t 63)⟩] [0, 3, 7, 64]) (.cond (.t 64) (.seq (.region [⟨some 4, none, .mv (.c (.d true (.bool false)))⟩] [4]) (.ret)) (.skip)))) (.region [⟨some 55, none, .mv (.t 7)⟩, ⟨some 56, none, .bin .add (.t 55) (.c (.d true (.int .i64 1)))⟩, ⟨some 7, none, .mv (.t 56)⟩] [0, 3, 7])))))) (.seq (.region [⟨some 4, none, .mv (.c (.d true (.bool true)))⟩] [4]) (.ret))))))
theorem ok52 : FnOk Try.prog Try.f52 65 keep52 ac52 [.t 4] := by
  refine ⟨?_, ?_, ?_, ?_, ?_⟩ <;> kernel_rfl

/-! spec.Same -/
def keep53 : Nat → List Nat
  | 0 => [2, 3]
  | 1 => [2, 3, 33]
  | 2 => [4]
  | 3 => [2, 3, 5]
  | 4 => [2, 3, 5, 38]
  | 5 => [2, 3, 5]
  | 6 => [2, 3, 5, 52]
  | 7 => [4]
  | 8 => [4]
  | _ => []
def ac53 : AC := .seq (.region [⟨some 2, none, .box (.t 0)⟩, ⟨some 3, none, .box (.t 1)⟩, ⟨some 4, none, .mv (.c (.d true (.bool false)))⟩] [2, 3]) (.seq (.seq (.region [⟨some 6, none, .fa 0 (.t 2)⟩, ⟨some 7, none, .ld none (.t 6)⟩, ⟨some 8, none, .fa 0 (.t 3)⟩, ⟨some 9, none, .ld none (.t 8)⟩, ⟨some 10, none, .bin .neq (.t 7) (.t 9)⟩, ⟨some 11, none, .mv (.t 10)⟩, ⟨some 12, some (11, false), .fa 1 (.t 2)⟩, ⟨some 13, some (11, false), .ld none (.t 12)⟩, ⟨some 14, some (11, false), .fa 1 (.t 3)⟩, ⟨some 15, some (11, false), .ld none (.t 14)⟩, ⟨some 16, some (11, false), .bin .neq (.t 13) (.t 15)⟩, ⟨some 17, none, .pick (.t 11) (.c (.d true (.bool true))) (.t 16)⟩, ⟨some 18, none, .mv (.t 17)⟩, ⟨some 19, some (18, false), .fa 2 (.t 2)⟩, ⟨some 20, some (18, false), .ld none (.t 19)⟩, ⟨some 21, some (18, false), .fa 2 (.t 3)⟩, ⟨some 22, some (18, false), .ld none (.t 21)⟩, ⟨some 23, some (18, false), .bin .neq (.t 20) (.t 22)⟩, ⟨some 24, none, .pick (.t 18) (.c (.d true (.bool true))) (.t 23)⟩, ⟨some 25, none, .mv (.t 24)⟩, ⟨some 26, some (25, false), .fa 3 (.t 2)⟩, ⟨some 27, some (25, false), .ld none (.t 26)⟩, ⟨some 28, some (25, false), .len (.t 27)⟩, ⟨some 29, some (25, false), .fa 3 (.t 3)⟩, ⟨some 30, some (25, false), .ld none (.t 29)⟩, ⟨some 31, some (25, false), .len (.t 30)⟩, ⟨some 32, some (25, false), .bin .neq (.t 28) (.t 31)⟩, ⟨some 33, none, .pick (.t 25) (.c (.d true (.bool true))) (.t 32)⟩] [2, 3, 33]) (.cond (.t 33) (.seq (.region [⟨some 4, none, .mv (.c (.d true (.bool false)))⟩] [4]) (.ret)) (.skip))) (.seq (.seq (.region [⟨some 5, none, .mv (.c (.d true (.int .i64 0)))⟩] [2, 3, 5]) (.block 0 (.loop (.seq (.seq (.region [⟨some 34, none, .mv (.t 5)⟩, ⟨some 35, none, .fa 3 (.t 2)⟩, ⟨some 36, none, .ld none (.t 35)⟩, ⟨some 37, none, .len (.t 36)⟩, ⟨some 38, none, .bin .lss (.t 34) (.t 37)⟩] [2, 3, 5, 38]) (.cond (.t 38) (.skip) (.exit 0))) (.seq (.block 1 (.seq (.draw [⟨some 41, none, .fa 3 (.t 2)⟩, ⟨some 42, none, .ld none (.t 41)⟩, ⟨some 43, none, .mv (.t 5)⟩, ⟨some 44, none, .ia 4 (.t 42) (.t 43)⟩, ⟨some 45, none, .ld (some 4) (.t 44)⟩, ⟨some 46, none, .fa 3 (.t 3)⟩, ⟨some 47, none, .ld none (.t 46)⟩, ⟨some 48, none, .mv (.t 5)⟩, ⟨some 49, none, .ia 4 (.t 47) (.t 48)⟩, ⟨some 50, none, .ld (some 4) (.t 49)⟩, ⟨some 51, none, .call (.c (.fn 53 [])) [.t 45, .t 50]⟩, ⟨some 52, none, .not (.t 51)⟩] [2, 3, 5, 52]) (.cond (.t 52) (.seq (.region [⟨some 4, none, .mv (.c (.d true (.bool false)))⟩] [4]) (.ret)) (.skip)))) (.region [⟨some 39, none, .mv (.t 5)⟩, ⟨some 40, none, .bin .add (.t 39) (.c (.d true (.int .i64 1)))⟩, ⟨some 5, none, .mv (.t 40)⟩] [2, 3, 5])))))) (.seq (.region [⟨some 4, none, .mv (.c (.d true (.bool true)))⟩] [4]) (.ret))))
theorem ok53 : FnOk Try.prog Try.f53 53 keep53 ac53 [.t 4] := by
  refine ⟨?_, ?_, ?_, ?_, ?_⟩ <;> kernel_rfl

/-! spec.l2Add -/
def keep54 : Nat → List Nat
  | 0 => [0, 3]
  | 1 => [0, 3, 12]
  | 2 => [4]
  | 3 => [4]
  | _ => []
def ac54 : AC := .seq (.region [⟨some 3, none, .box (.t 1)⟩, ⟨some 4, none, .own 26 4⟩] [0, 3]) (.seq (.seq (.region [⟨some 5, none, .mv (.t 0)⟩, ⟨some 6, none, .len (.t 5)⟩, ⟨some 7, none, .bin .geq (.t 6) (.c (.d true (.int .i64 300)))⟩, ⟨some 8, none, .mv (.t 7)⟩, ⟨some 9, some (8, false), .mv (.t 0)⟩, ⟨some 10, some (8, false), .ld (some 4) (.t 3)⟩, ⟨some 11, some (8, false), .call (.c (.fn 66 [])) [.t 9, .t 10]⟩, ⟨some 12, none, .pick (.t 8) (.c (.d true (.bool true))) (.t 11)⟩] [0, 3, 12]) (.cond (.t 12) (.seq (.region [⟨some 13, none, .mv (.t 0)⟩, ⟨some 4, none, .mv (.t 13)⟩] [4]) (.ret)) (.skip))) (.seq (.region [⟨some 14, none, .mv (.t 0)⟩, ⟨some 15, none, .ld (some 4) (.t 3)⟩, ⟨some 16, none, .call (.c (.fn 43 [])) [.t 15]⟩, ⟨some 17, none, .bs 26 4 [.t 16]⟩, ⟨some 18, none, .app 26 4 56 (.t 14) (.t 17)⟩, ⟨some 4, none, .mv (.t 18)⟩] [4]) (.ret)))
theorem ok54 : FnOk Try.prog Try.f54 19 keep54 ac54 [.t 4] := by
  refine ⟨?_, ?_, ?_, ?_, ?_⟩ <;> kernel_rfl

/-! impl.made -/
def keep55 : Nat → List Nat
  | 0 => [2, 3]
  | 1 => [2, 3, 7]
  | 2 => [4]
  | 3 => [2, 3, 16]
  | 4 => [4]
  | 5 => [2, 3, 20]
  | 6 => [2, 5, 6]
  | 7 => [4]
  | 8 => [4]
  | 1000006 => [1]
  | _ => []
def ac55 : AC := .seq (.region [⟨some 2, none, .box (.t 0)⟩, ⟨some 3, none, .box (.t 1)⟩, ⟨some 4, none, .mv (.c (.d true (.bool false)))⟩] [2, 3]) (.seq (.block 0 (.seq (.region [⟨some 8, none, .fa 0 (.t 3)⟩, ⟨some 9, none, .ld none (.t 8)⟩, ⟨some 10, none, .bin .eql (.t 9) (.c (.d true (.int .i64 2)))⟩, ⟨some 11, none, .mv (.t 10)⟩, ⟨some 12, some (11, false), .ld none (.t 2)⟩, ⟨some 13, some (11, false), .ld (some 4) (.t 3)⟩, ⟨some 14, some (11, false), .call (.c (.fn 65 [])) [.t 12, .t 13]⟩, ⟨some 15, none, .pick (.t 11) (.c (.d true (.bool true))) (.t 14)⟩, ⟨some 7, none, .mv (.t 15)⟩] [2, 3, 7]) (.cond (.t 7) (.seq (.region [⟨some 4, none, .mv (.c (.d true (.bool true)))⟩] [4]) (.ret)) (.seq (.region [⟨some 17, none, .fa 0 (.t 3)⟩, ⟨some 18, none, .ld none (.t 17)⟩, ⟨some 19, none, .bin .eql (.t 18) (.c (.d true (.int .i64 1)))⟩, ⟨some 16, none, .mv (.t 19)⟩] [2, 3, 16]) (.cond (.t 16) (.seq (.region [⟨some 4, none, .mv (.c (.d true (.bool false)))⟩] [4]) (.ret)) (.seq (.region [⟨some 21, none, .fa 0 (.t 3)⟩, ⟨some 22, none, .ld none (.t 21)⟩, ⟨some 23, none, .bin .eql (.t 22) (.c (.d true (.int .i64 5)))⟩, ⟨some 20, none, .mv (.t 23)⟩] [2, 3, 20]) (.cond (.t 20) (.seq (.tree (.take ⟨some 24, none, .fa 3 (.t 3)⟩ (.take ⟨some 25, none, .ld none (.t 24)⟩ (.take ⟨some 26, none, .ia 4 (.t 25) (.c (.d true (.int .i64 0)))⟩ (.take ⟨some 27, none, .ld (some 4) (.t 26)⟩ (.take ⟨some 28, none, .fa 3 (.t 3)⟩ (.take ⟨some 29, none, .ld none (.t 28)⟩ (.take ⟨some 30, none, .ia 4 (.t 29) (.c (.d true (.int .i64 1)))⟩ (.take ⟨some 31, none, .ld (some 4) (.t 30)⟩ (.br (.cons ⟨some 5, none, .alloc [.d true (.int .i64 0), .d true (.int .i64 0), .d true (.str ⟨#[]⟩), .nil]⟩ (.br (.cons ⟨some 6, none, .alloc [.d true (.int .i64 0), .d true (.int .i64 0), .d true (.str ⟨#[]⟩), .nil]⟩ (.br (.cons ⟨none, none, .st 4 (.t 5) (.t 27)⟩ (.br (.cons ⟨none, none, .st 4 (.t 6) (.t 31)⟩ (.done) (.nil))) (.nil))) (.nil))) (.cons ⟨some 6, none, .alloc [.d true (.int .i64 0), .d true (.int .i64 0), .d true (.str ⟨#[]⟩), .nil]⟩ (.br (.cons ⟨some 5, none, .alloc [.d true (.int .i64 0), .d true (.int .i64 0), .d true (.str ⟨#[]⟩), .nil]⟩ (.br (.cons ⟨none, none, .st 4 (.t 5) (.t 27)⟩ (.br (.cons ⟨none, none, .st 4 (.t 6) (.t 31)⟩ (.done) (.nil))) (.nil))) (.nil))) (.nil)))))))))))) [2, 5, 6]) (.seq (.region [⟨some 32, none, .ld none (.t 2)⟩, ⟨some 33, none, .ld (some 4) (.t 5)⟩, ⟨some 34, none, .call (.c (.fn 55 [])) [.t 32, .t 33]⟩, ⟨some 35, none, .mv (.t 34)⟩, ⟨some 36, some (35, true), .ld none (.t 2)⟩, ⟨some 37, some (35, true), .ld (some 4) (.t 6)⟩, ⟨some 38, some (35, true), .call (.c (.fn 68 [])) [.t 36, .t 37]⟩, ⟨some 39, none, .pick (.t 35) (.t 38) (.c (.d true (.bool false)))⟩, ⟨some 40, none, .mv (.t 39)⟩, ⟨some 41, some (40, false), .ld none (.t 2)⟩, ⟨some 42, some (40, false), .ld (some 4) (.t 6)⟩, ⟨some 43, some (40, false), .call (.c (.fn 55 [])) [.t 41, .t 42]⟩, ⟨some 44, some (40, false), .mv (.t 43)⟩, ⟨some 45, some (44, true), .ld none (.t 2)⟩, ⟨some 46, some (44, true), .ld (some 4) (.t 5)⟩, ⟨some 47, some (44, true), .call (.c (.fn 68 [])) [.t 45, .t 46]⟩, ⟨some 48, some (40, false), .pick (.t 44) (.t 47) (.c (.d true (.bool false)))⟩, ⟨some 49, none, .pick (.t 40) (.c (.d true (.bool true))) (.t 48)⟩, ⟨some 4, none, .mv (.t 49)⟩] [4]) (.ret))) (.skip)))))))) (.seq (.region [⟨some 50, none, .fa 3 (.t 3)⟩, ⟨some 51, none, .ld none (.t 50)⟩, ⟨some 52, none, .mkf 69 [.t 2]⟩, ⟨some 53, none, .call (.c (.fn 60 [])) [.t 51, .t 52]⟩, ⟨some 54, none, .not (.t 53)⟩, ⟨some 4, none, .mv (.t 54)⟩] [4]) (.ret)))
theorem ok55 : FnOk Try.prog Try.f55 55 keep55 ac55 [.t 4] := by
  refine ⟨?_, ?_, ?_, ?_, ?_⟩ <;> kernel_rfl

/-! spec.l1Below -/
def keep56 : Nat → List Nat
  | 0 => [0, 1, 1000000, 1000001]
  | 1 => [0, 1, 10, 1000000, 1000001]
  | 2 => [4, 1000000, 1000001]
  | 3 => [0, 1, 12, 1000000, 1000001]
  | 4 => [4, 1000000, 1000001]
  | 5 => [0, 1, 5, 1000000, 1000001]
  | 6 => [0, 1, 5, 6, 1000000, 1000001]
  | 7 => [0, 1, 5, 6, 7, 1000000, 1000001]
  | 8 => [1, 5, 6, 7, 8, 1000000, 1000001]
  | 9 => [4, 1000000, 1000001]
  | _ => []
def ac56 : AC := .seq (.region [⟨some 4, none, .mv (.c (.d true (.int .i64 0)))⟩] [0, 1, 1000000, 1000001]) (.seq (.seq (.region [⟨some 9, none, .mv (.t 1)⟩, ⟨some 10, none, .bin .leq (.t 9) (.c (.d true (.int .i64 0)))⟩] [0, 1, 10, 1000000, 1000001]) (.cond (.t 10) (.seq (.region [⟨some 4, none, .mv (.c (.d true (.int .i64 0)))⟩] [4, 1000000, 1000001]) (.ret)) (.skip))) (.seq (.seq (.region [⟨some 11, none, .mv (.t 1)⟩, ⟨some 12, none, .bin .leq (.t 11) (.c (.d true (.int .i64 256)))⟩] [0, 1, 12, 1000000, 1000001]) (.cond (.t 12) (.seq (.region [⟨some 13, none, .mv (.t 0)⟩, ⟨some 14, none, .call (.c (.fn 70 [])) [.t 13]⟩, ⟨some 15, none, .mv (.t 1)⟩, ⟨some 16, none, .bin .rem (.t 14) (.t 15)⟩, ⟨some 4, none, .mv (.t 16)⟩] [4, 1000000, 1000001]) (.ret)) (.skip))) (.seq (.region [⟨some 17, none, .mv (.t 0)⟩, ⟨some 18, none, .call (.c (.fn 70 [])) [.t 17]⟩, ⟨some 5, none, .mv (.t 18)⟩] [0, 1, 5, 1000000, 1000001]) (.seq (.region [⟨some 19, none, .mv (.t 0)⟩, ⟨some 20, none, .call (.c (.fn 70 [])) [.t 19]⟩, ⟨some 6, none, .mv (.t 20)⟩] [0, 1, 5, 6, 1000000, 1000001]) (.seq (.region [⟨some 21, none, .mv (.t 0)⟩, ⟨some 22, none, .call (.c (.fn 70 [])) [.t 21]⟩, ⟨some 7, none, .mv (.t 22)⟩] [0, 1, 5, 6, 7, 1000000, 1000001]) (.seq (.region [⟨some 23, none, .mv (.t 0)⟩, ⟨some 24, none, .call (.c (.fn 70 [])) [.t 23]⟩, ⟨some 8, none, .mv (.t 24)⟩] [1, 5, 6, 7, 8, 1000000, 1000001]) (.seq (.region [⟨some 25, none, .mv (.t 5)⟩, ⟨some 26, none, .bin .mul (.t 25) (.c (.d true (.int .i64 16777216)))⟩, ⟨some 27, none, .mv (.t 6)⟩, ⟨some 28, none, .bin .mul (.t 27) (.c (.d true (.int .i64 65536)))⟩, ⟨some 29, none, .bin .add (.t 26) (.t 28)⟩, ⟨some 30, none, .mv (.t 7)⟩, ⟨some 31, none, .bin .mul (.t 30) (.c (.d true (.int .i64 256)))⟩, ⟨some 32, none, .bin .add (.t 29) (.t 31)⟩, ⟨some 33, none, .mv (.t 8)⟩, ⟨some 34, none, .bin .add (.t 32) (.t 33)⟩, ⟨some 35, none, .mv (.t 1)⟩, ⟨some 36, none, .bin .rem (.t 34) (.t 35)⟩, ⟨some 4, none, .mv (.t 36)⟩] [4, 1000000, 1000001]) (.ret))))))))
theorem ok56 : FnOk Try.prog Try.f56 37 keep56 ac56 [.t 4] := by
  refine ⟨?_, ?_, ?_, ?_, ?_⟩ <;> kernel_rfl

/-! spec.l1DrawRight -/
def keep57 : Nat → List Nat
  | 0 => [0, 1, 4, 1000000, 1000001]
  | 1 => [0, 1, 4, 13, 1000000, 1000001]
  | 2 => [0, 4, 15, 1000000, 1000001]
  | 3 => [4, 1000000, 1000001]
  | 4 => [4, 1000000, 1000001]
  | 5 => [0, 1, 4, 5, 1000000, 1000001]
  | 6 => [0, 1, 4, 5, 28, 1000000, 1000001]
  | 7 => [0, 1, 4, 5, 28, 29, 1000000, 1000001]
  | 8 => [4, 1000000, 1000001]
  | 9 => [0, 1, 4, 5, 28, 33, 1000000, 1000001]
  | 10 => [4, 1000000, 1000001]
  | 11 => [0, 1, 4, 5, 28, 37, 1000000, 1000001]
  | 12 => [4, 5, 6, 7, 1000000, 1000001]
  | 13 => [4, 5, 6, 49, 1000000, 1000001]
  | 14 => [4, 1000000, 1000001]
  | 15 => [4, 1000000, 1000001]
  | 16 => [0, 1, 4, 5, 28, 52, 1000000, 1000001]
  | 17 => [4, 1000000, 1000001]
  | 18 => [0, 1, 4, 5, 62, 1000000, 1000001]
  | 19 => [4, 1000000, 1000001]
  | 20 => [4, 1000000, 1000001]
  | 1000012 => [1]
  | 1000017 => [1]
  | 1000019 => [1]
  | 1000020 => [1]
  | _ => []
def ac57 : AC := .seq (.region [⟨some 4, none, .alloc [.d true (.int .i64 0), .d true (.int .i64 0), .d true (.str ⟨#[]⟩), .nil]⟩] [0, 1, 4, 1000000, 1000001]) (.seq (.seq (.region [⟨some 8, none, .mv (.t 1)⟩, ⟨some 9, none, .bin .eql (.t 8) (.c (.d true (.int .i64 0)))⟩, ⟨some 10, none, .mv (.t 9)⟩, ⟨some 11, some (10, false), .mv (.t 0)⟩, ⟨some 12, some (10, false), .call (.c (.fn 45 [])) [.t 11, .c (.d true (.int .i64 4))]⟩, ⟨some 13, none, .pick (.t 10) (.c (.d true (.bool true))) (.t 12)⟩] [0, 1, 4, 13, 1000000, 1000001]) (.cond (.t 13) (.seq (.seq (.region [⟨some 14, none, .mv (.t 0)⟩, ⟨some 15, none, .call (.c (.fn 45 [])) [.t 14, .c (.d true (.int .i64 3))]⟩] [0, 4, 15, 1000000, 1000001]) (.cond (.t 15) (.seq (.region [⟨some 16, none, .mv (.t 0)⟩, ⟨some 17, none, .bs 9 1 [.c (.d true (.str ⟨#[]⟩)), .c (.d true (.str ⟨#[97]⟩)), .c (.d true (.str ⟨#[109, 120, 46, 97]⟩)), .c (.d true (.str ⟨#[50, 53, 48]⟩))]⟩, ⟨some 18, none, .call (.c (.fn 71 [])) [.t 16, .t 17]⟩, ⟨some 19, none, .bld [.d true (.int .i64 0), .d true (.int .i64 0), .d true (.str ⟨#[]⟩), .nil] [(0, 1, .c (.d true (.int .i64 2))), (2, 1, .t 18)]⟩, ⟨none, none, .st 4 (.t 4) (.t 19)⟩] [4, 1000000, 1000001]) (.ret)) (.skip))) (.seq (.region [⟨some 20, none, .mv (.t 0)⟩, ⟨some 21, none, .call (.c (.fn 56 [])) [.t 20, .c (.d true (.int .i64 9))]⟩, ⟨some 22, none, .bld [.d true (.int .i64 0), .d true (.int .i64 0), .d true (.str ⟨#[]⟩), .nil] [(0, 1, .c (.d true (.int .i64 1))), (1, 1, .t 21)]⟩, ⟨none, none, .st 4 (.t 4) (.t 22)⟩] [4, 1000000, 1000001]) (.ret))) (.skip))) (.seq (.region [⟨some 23, none, .mv (.t 0)⟩, ⟨some 24, none, .mv (.t 1)⟩, ⟨some 25, none, .bin .sub (.t 24) (.c (.d true (.int .i64 1)))⟩, ⟨some 26, none, .call (.c (.fn 57 [])) [.t 23, .t 25]⟩, ⟨some 5, none, .alloc [.d true (.int .i64 0), .d true (.int .i64 0), .d true (.str ⟨#[]⟩), .nil]⟩, ⟨none, none, .st 4 (.t 5) (.t 26)⟩] [0, 1, 4, 5, 1000000, 1000001]) (.seq (.seq (.region [⟨some 27, none, .mv (.t 0)⟩, ⟨some 28, none, .call (.c (.fn 56 [])) [.t 27, .c (.d true (.int .i64 7))]⟩] [0, 1, 4, 5, 28, 1000000, 1000001]) (.block 0 (.seq (.region [⟨some 30, none, .bin .eql (.t 28) (.c (.d true (.int .i64 0)))⟩, ⟨some 29, none, .mv (.t 30)⟩] [0, 1, 4, 5, 28, 29, 1000000, 1000001]) (.cond (.t 29) (.seq (.region [⟨some 31, none, .ld (some 4) (.t 5)⟩, ⟨some 32, none, .call (.c (.fn 18 [])) [.t 31]⟩, ⟨none, none, .st 4 (.t 4) (.t 32)⟩] [4, 1000000, 1000001]) (.ret)) (.seq (.region [⟨some 34, none, .bin .eql (.t 28) (.c (.d true (.int .i64 1)))⟩, ⟨some 33, none, .mv (.t 34)⟩] [0, 1, 4, 5, 28, 33, 1000000, 1000001]) (.cond (.t 33) (.seq (.region [⟨some 35, none, .ld (some 4) (.t 5)⟩, ⟨some 36, none, .call (.c (.fn 19 [])) [.t 35]⟩, ⟨none, none, .st 4 (.t 4) (.t 36)⟩] [4, 1000000, 1000001]) (.ret)) (.seq (.region [⟨some 38, none, .bin .eql (.t 28) (.c (.d true (.int .i64 2)))⟩, ⟨some 37, none, .mv (.t 38)⟩] [0, 1, 4, 5, 28, 37, 1000000, 1000001]) (.cond (.t 37) (.seq (.tree (.take ⟨some 40, none, .ld (some 4) (.t 5)⟩ (.take ⟨some 41, none, .mv (.t 0)⟩ (.take ⟨some 42, none, .mv (.t 1)⟩ (.take ⟨some 43, none, .bin .sub (.t 42) (.c (.d true (.int .i64 1)))⟩ (.br (.cons ⟨some 44, none, .call (.c (.fn 57 [])) [.t 41, .t 43]⟩ (.br (.cons ⟨some 45, none, .call (.c (.fn 18 [])) [.t 44]⟩ (.br (.cons ⟨some 46, none, .call (.c (.fn 23 [])) [.t 40, .t 45]⟩ (.take ⟨some 39, none, .mv (.t 46)⟩ (.take ⟨some 47, none, .ext (.t 39) 0⟩ (.take ⟨some 48, none, .ext (.t 39) 1⟩ (.br (.cons ⟨some 6, none, .alloc [.d true (.int .i64 0), .d true (.int .i64 0), .d true (.str ⟨#[]⟩), .nil]⟩ (.br (.cons ⟨none, none, .st 4 (.t 6) (.t 47)⟩ (.take ⟨some 7, none, .mv (.t 48)⟩ (.done)) (.nil))) (.nil)))))) (.cons ⟨some 6, none, .alloc [.d true (.int .i64 0), .d true (.int .i64 0), .d true (.str ⟨#[]⟩), .nil]⟩ (.br (.cons ⟨some 46, none, .call (.c (.fn 23 [])) [.t 40, .t 45]⟩ (.take ⟨some 39, none, .mv (.t 46)⟩ (.take ⟨some 47, none, .ext (.t 39) 0⟩ (.take ⟨some 48, none, .ext (.t 39) 1⟩ (.br (.cons ⟨none, none, .st 4 (.t 6) (.t 47)⟩ (.take ⟨some 7, none, .mv (.t 48)⟩ (.done)) (.nil)))))) (.nil))) (.nil)))) (.cons ⟨some 6, none, .alloc [.d true (.int .i64 0), .d true (.int .i64 0), .d true (.str ⟨#[]⟩), .nil]⟩ (.br (.cons ⟨some 45, none, .call (.c (.fn 18 [])) [.t 44]⟩ (.br (.cons ⟨some 46, none, .call (.c (.fn 23 [])) [.t 40, .t 45]⟩ (.take ⟨some 39, none, .mv (.t 46)⟩ (.take ⟨some 47, none, .ext (.t 39) 0⟩ (.take ⟨some 48, none, .ext (.t 39) 1⟩ (.br (.cons ⟨none, none, .st 4 (.t 6) (.t 47)⟩ (.take ⟨some 7, none, .mv (.t 48)⟩ (.done)) (.nil)))))) (.nil))) (.nil))) (.nil)))) (.cons ⟨some 6, none, .alloc [.d true (.int .i64 0), .d true (.int .i64 0), .d true (.str ⟨#[]⟩), .nil]⟩ (.br (.cons ⟨some 44, none, .call (.c (.fn 57 [])) [.t 41, .t 43]⟩ (.br (.cons ⟨some 45, none, .call (.c (.fn 18 [])) [.t 44]⟩ (.br (.cons ⟨some 46, none, .call (.c (.fn 23 [])) [.t 40, .t 45]⟩ (.take ⟨some 39, none, .mv (.t 46)⟩ (.take ⟨some 47, none, .ext (.t 39) 0⟩ (.take ⟨some 48, none, .ext (.t 39) 1⟩ (.br (.cons ⟨none, none, .st 4 (.t 6) (.t 47)⟩ (.take ⟨some 7, none, .mv (.t 48)⟩ (.done)) (.nil)))))) (.nil))) (.nil))) (.nil))) (.nil)))))))) [4, 5, 6, 7, 1000000, 1000001]) (.seq (.seq (.region [⟨some 49, none, .mv (.t 7)⟩] [4, 5, 6, 49, 1000000, 1000001]) (.cond (.t 49) (.seq (.region [⟨some 50, none, .ld (some 4) (.t 6)⟩, ⟨none, none, .st 4 (.t 4) (.t 50)⟩] [4, 1000000, 1000001]) (.ret)) (.skip))) (.seq (.region [⟨some 51, none, .ld (some 4) (.t 5)⟩, ⟨none, none, .st 4 (.t 4) (.t 51)⟩] [4, 1000000, 1000001]) (.ret)))) (.seq (.region [⟨some 53, none, .bin .eql (.t 28) (.c (.d true (.int .i64 3)))⟩, ⟨some 52, none, .mv (.t 53)⟩] [0, 1, 4, 5, 28, 52, 1000000, 1000001]) (.cond (.t 52) (.seq (.tree (.take ⟨some 54, none, .ld (some 4) (.t 5)⟩ (.take ⟨some 55, none, .mv (.t 0)⟩ (.take ⟨some 57, none, .mv (.t 0)⟩ (.take ⟨some 58, none, .mv (.t 1)⟩ (.take ⟨some 59, none, .bin .sub (.t 58) (.c (.d true (.int .i64 1)))⟩ (.br (.cons ⟨some 56, none, .call (.c (.fn 56 [])) [.t 55, .c (.d true (.int .i64 3))]⟩ (.br (.cons ⟨some 60, none, .call (.c (.fn 57 [])) [.t 57, .t 59]⟩ (.br (.cons ⟨some 61, none, .call (.c (.fn 72 [])) [.t 54, .t 56, .t 60]⟩ (.br (.cons ⟨none, none, .st 4 (.t 4) (.t 61)⟩ (.done) (.nil))) (.nil))) (.nil))) (.nil)))))))) [4, 1000000, 1000001]) (.ret)) (.seq (.region [⟨some 63, none, .bin .eql (.t 28) (.c (.d true (.int .i64 4)))⟩, ⟨some 62, none, .mv (.t 63)⟩] [0, 1, 4, 5, 62, 1000000, 1000001]) (.cond (.t 62) (.seq (.tree (.take ⟨some 64, none, .ld (some 4) (.t 5)⟩ (.take ⟨some 65, none, .mv (.t 0)⟩ (.take ⟨some 66, none, .mv (.t 1)⟩ (.take ⟨some 67, none, .bin .sub (.t 66) (.c (.d true (.int .i64 1)))⟩ (.br (.cons ⟨some 68, none, .call (.c (.fn 57 [])) [.t 65, .t 67]⟩ (.br (.cons ⟨some 69, none, .call (.c (.fn 73 [])) [.t 64, .t 68]⟩ (.br (.cons ⟨none, none, .st 4 (.t 4) (.t 69)⟩ (.done) (.nil))) (.nil))) (.nil))))))) [4, 1000000, 1000001]) (.ret)) (.skip))))))))))))) (.seq (.tree (.take ⟨some 70, none, .ld (some 4) (.t 5)⟩ (.take ⟨some 71, none, .mv (.t 0)⟩ (.take ⟨some 72, none, .mv (.t 1)⟩ (.take ⟨some 73, none, .bin .sub (.t 72) (.c (.d true (.int .i64 1)))⟩ (.br (.cons ⟨some 74, none, .call (.c (.fn 57 [])) [.t 71, .t 73]⟩ (.br (.cons ⟨some 75, none, .call (.c (.fn 16 [])) [.t 70, .t 74]⟩ (.br (.cons ⟨none, none, .st 4 (.t 4) (.t 75)⟩ (.done) (.nil))) (.nil))) (.nil))))))) [4, 1000000, 1000001]) (.ret)))))
theorem ok57 : FnOk Try.prog Try.f57 76 keep57 ac57 [.c 4 (some 4)] := by
  refine ⟨?_, ?_, ?_, ?_, ?_⟩ <;> kernel_rfl

/-! impl.clone -/
def keep58 : Nat → List Nat
  | 0 => [1, 2]
  | 1 => [1, 2]
  | 2 => [2]
  | _ => []
def ac58 : AC := .seq (.region [⟨some 1, none, .box (.t 0)⟩, ⟨some 2, none, .alloc [.d true (.int .i64 0), .d true (.int .i64 0), .d true (.str ⟨#[]⟩), .nil]⟩] [1, 2]) (.seq (.region [⟨some 3, none, .fa 3 (.t 1)⟩, ⟨some 4, none, .ld none (.t 3)⟩, ⟨some 5, none, .call (.c (.fn 74 [])) [.t 4]⟩, ⟨some 6, none, .fa 3 (.t 1)⟩, ⟨none, none, .st 1 (.t 6) (.t 5)⟩] [1, 2]) (.seq (.region [⟨some 7, none, .ld (some 4) (.t 1)⟩, ⟨none, none, .st 4 (.t 2) (.t 7)⟩] [2]) (.ret)))
theorem ok58 : FnOk Try.prog Try.f58 8 keep58 ac58 [.c 2 (some 4)] := by
  refine ⟨?_, ?_, ?_, ?_, ?_⟩ <;> kernel_rfl

/-! impl.arity -/
def keep59 : Nat → List Nat
  | 0 => [0]
  | 1 => [3]
  | 2 => [3, 4]
  | 3 => [3, 4]
  | 4 => [2]
  | 5 => [3, 7]
  | 6 => [3, 7]
  | 7 => [2]
  | 8 => [3, 10]
  | 9 => [3, 10]
  | 10 => [3, 10]
  | 11 => [10]
  | 12 => [2]
  | 13 => [2]
  | _ => []
def ac59 : AC := .seq (.region [⟨some 2, none, .mv (.c (.d true (.int .i64 0)))⟩] [0]) (.seq (.seq (.region [⟨some 3, none, .mv (.t 0)⟩] [3]) (.block 0 (.seq (.seq (.region [⟨some 5, none, .bin .eql (.t 3) (.c (.d true (.int .i64 1)))⟩, ⟨some 4, none, .mv (.t 5)⟩] [3, 4]) (.cond (.t 4) (.skip) (.region [⟨some 6, none, .bin .eql (.t 3) (.c (.d true (.int .i64 2)))⟩, ⟨some 4, none, .mv (.t 6)⟩] [3, 4]))) (.cond (.t 4) (.seq (.region [⟨some 2, none, .mv (.c (.d true (.int .i64 0)))⟩] [2]) (.ret)) (.seq (.seq (.region [⟨some 8, none, .bin .eql (.t 3) (.c (.d true (.int .i64 4)))⟩, ⟨some 7, none, .mv (.t 8)⟩] [3, 7]) (.cond (.t 7) (.skip) (.region [⟨some 9, none, .bin .eql (.t 3) (.c (.d true (.int .i64 6)))⟩, ⟨some 7, none, .mv (.t 9)⟩] [3, 7]))) (.cond (.t 7) (.seq (.region [⟨some 2, none, .mv (.c (.d true (.int .i64 1)))⟩] [2]) (.ret)) (.seq (.seq (.region [⟨some 11, none, .bin .eql (.t 3) (.c (.d true (.int .i64 3)))⟩, ⟨some 10, none, .mv (.t 11)⟩] [3, 10]) (.cond (.t 10) (.skip) (.seq (.region [⟨some 12, none, .bin .eql (.t 3) (.c (.d true (.int .i64 5)))⟩, ⟨some 10, none, .mv (.t 12)⟩] [3, 10]) (.cond (.t 10) (.skip) (.seq (.region [⟨some 13, none, .bin .eql (.t 3) (.c (.d true (.int .i64 7)))⟩, ⟨some 10, none, .mv (.t 13)⟩] [3, 10]) (.cond (.t 10) (.skip) (.region [⟨some 14, none, .bin .eql (.t 3) (.c (.d true (.int .i64 8)))⟩, ⟨some 10, none, .mv (.t 14)⟩] [10]))))))) (.cond (.t 10) (.seq (.region [⟨some 2, none, .mv (.c (.d true (.int .i64 2)))⟩] [2]) (.ret)) (.skip))))))))) (.seq (.region [⟨some 2, none, .mv (.c (.d true (.int .i64 (-1))))⟩] [2]) (.ret)))
theorem ok59 : FnOk Try.prog Try.f59 15 keep59 ac59 [.t 2] := by
  refine ⟨?_, ?_, ?_, ?_, ?_⟩ <;> kernel_rfl

/-! slices.ContainsFunc[[]impl.Term,impl.Term] -/
def keep60 : Nat → List Nat
  | 0 => [0, 1]
  | 1 => [4]
  | _ => []
def ac60 : AC := .seq (.region [⟨some 4, none, .mv (.c (.d true (.bool false)))⟩] [0, 1]) (.seq (.region [⟨some 5, none, .mv (.t 0)⟩, ⟨some 6, none, .mv (.t 1)⟩, ⟨some 7, none, .call (.c (.fn 75 [])) [.t 5, .t 6]⟩, ⟨some 8, none, .bin .geq (.t 7) (.c (.d true (.int .i64 0)))⟩, ⟨some 4, none, .mv (.t 8)⟩] [4]) (.ret))
theorem ok60 : FnOk Try.prog Try.f60 9 keep60 ac60 [.t 4] := by
  refine ⟨?_, ?_, ?_, ?_, ?_⟩ <;> kernel_rfl

/-! impl.formOk$1 -/
def keep61 : Nat → List Nat
  | 0 => [1]
  | 1 => [2]
  | _ => []
def ac61 : AC := .seq (.region [⟨some 1, none, .box (.t 0)⟩, ⟨some 2, none, .mv (.c (.d true (.bool false)))⟩] [1]) (.seq (.region [⟨some 3, none, .ld (some 4) (.t 1)⟩, ⟨some 4, none, .call (.c (.fn 44 [])) [.t 3]⟩, ⟨some 5, none, .not (.t 4)⟩, ⟨some 2, none, .mv (.t 5)⟩] [2]) (.ret))
theorem ok61 : FnOk Try.prog Try.f61 6 keep61 ac61 [.t 2] := by
  refine ⟨?_, ?_, ?_, ?_, ?_⟩ <;> kernel_rfl

/-! impl.in -/
def keep62 : Nat → List Nat
  | 0 => [0, 1, 2]
  | 1 => [6]
  | _ => []
def ac62 : AC := .seq (.region [⟨some 6, none, .mv (.c (.d true (.bool false)))⟩] [0, 1, 2]) (.seq (.region [⟨some 7, none, .mv (.t 0)⟩, ⟨some 8, none, .mv (.t 1)⟩, ⟨some 9, none, .bin .geq (.t 7) (.t 8)⟩, ⟨some 10, none, .mv (.t 9)⟩, ⟨some 11, some (10, true), .mv (.t 0)⟩, ⟨some 12, some (10, true), .mv (.t 2)⟩, ⟨some 13, some (10, true), .bin .leq (.t 11) (.t 12)⟩, ⟨some 14, none, .pick (.t 10) (.t 13) (.c (.d true (.bool false)))⟩, ⟨some 6, none, .mv (.t 14)⟩] [6]) (.ret))
theorem ok62 : FnOk Try.prog Try.f62 15 keep62 ac62 [.t 6] := by
  refine ⟨?_, ?_, ?_, ?_, ?_⟩ <;> kernel_rfl

/-! spec.TermSize -/
def keep63 : Nat → List Nat
  | 0 => [1]
  | 1 => [1, 3]
  | 2 => [1, 3, 4]
  | 3 => [1, 3, 4, 9]
  | 4 => [1, 3, 4]
  | 5 => [1, 3, 4]
  | 6 => [2]
  | _ => []
def ac63 : AC := .seq (.region [⟨some 1, none, .box (.t 0)⟩, ⟨some 2, none, .mv (.c (.d true (.int .i64 0)))⟩] [1]) (.seq (.region [⟨some 3, none, .mv (.c (.d true (.int .i64 1)))⟩] [1, 3]) (.seq (.seq (.region [⟨some 4, none, .mv (.c (.d true (.int .i64 0)))⟩] [1, 3, 4]) (.block 0 (.loop (.seq (.seq (.region [⟨some 5, none, .mv (.t 4)⟩, ⟨some 6, none, .fa 3 (.t 1)⟩, ⟨some 7, none, .ld none (.t 6)⟩, ⟨some 8, none, .len (.t 7)⟩, ⟨some 9, none, .bin .lss (.t 5) (.t 8)⟩] [1, 3, 4, 9]) (.cond (.t 9) (.skip) (.exit 0))) (.seq (.block 1 (.region [⟨some 12, none, .mv (.t 3)⟩, ⟨some 13, none, .fa 3 (.t 1)⟩, ⟨some 14, none, .ld none (.t 13)⟩, ⟨some 15, none, .mv (.t 4)⟩, ⟨some 16, none, .ia 4 (.t 14) (.t 15)⟩, ⟨some 17, none, .ld (some 4) (.t 16)⟩, ⟨some 18, none, .call (.c (.fn 63 [])) [.t 17]⟩, ⟨some 19, none, .bin .add (.t 12) (.t 18)⟩, ⟨some 3, none, .mv (.t 19)⟩] [1, 3, 4])) (.region [⟨some 10, none, .mv (.t 4)⟩, ⟨some 11, none, .bin .add (.t 10) (.c (.d true (.int .i64 1)))⟩, ⟨some 4, none, .mv (.t 11)⟩] [1, 3, 4])))))) (.seq (.region [⟨some 20, none, .mv (.t 3)⟩, ⟨some 2, none, .mv (.t 20)⟩] [2]) (.ret))))
theorem ok63 : FnOk Try.prog Try.f63 21 keep63 ac63 [.t 2] := by
  refine ⟨?_, ?_, ?_, ?_, ?_⟩ <;> kernel_rfl

/-! spec.l1Right -/
def keep64 : Nat → List Nat
  | 0 => [1]
  | 1 => [1, 42]
  | 2 => [2]
  | 3 => [1, 3]
  | 4 => [1, 3, 47]
  | 5 => [1, 3]
  | 6 => [1, 3, 56]
  | 7 => [2]
  | 8 => [2]
  | _ => []
def ac64 : AC := .seq (.region [⟨some 1, none, .box (.t 0)⟩, ⟨some 2, none, .mv (.c (.d true (.bool false)))⟩] [1]) (.seq (.seq (.draw [⟨some 4, none, .fa 0 (.t 1)⟩, ⟨some 5, none, .ld none (.t 4)⟩, ⟨some 6, none, .call (.c (.fn 76 [])) [.t 5]⟩, ⟨some 7, none, .fa 3 (.t 1)⟩, ⟨some 8, none, .ld none (.t 7)⟩, ⟨some 9, none, .len (.t 8)⟩, ⟨some 10, none, .bin .neq (.t 6) (.t 9)⟩, ⟨some 11, none, .mv (.t 10)⟩, ⟨some 12, some (11, false), .fa 0 (.t 1)⟩, ⟨some 13, some (11, false), .ld none (.t 12)⟩, ⟨some 14, some (11, false), .bin .neq (.t 13) (.c (.d true (.int .i64 1)))⟩, ⟨some 15, some (11, false), .mv (.t 14)⟩, ⟨some 16, some (15, true), .fa 1 (.t 1)⟩, ⟨some 17, some (15, true), .ld none (.t 16)⟩, ⟨some 18, some (15, true), .bin .neq (.t 17) (.c (.d true (.int .i64 0)))⟩, ⟨some 19, some (11, false), .pick (.t 15) (.t 18) (.c (.d true (.bool false)))⟩, ⟨some 20, none, .pick (.t 11) (.c (.d true (.bool true))) (.t 19)⟩, ⟨some 21, none, .mv (.t 20)⟩, ⟨some 22, some (21, false), .fa 0 (.t 1)⟩, ⟨some 23, some (21, false), .ld none (.t 22)⟩, ⟨some 24, some (21, false), .bin .neq (.t 23) (.c (.d true (.int .i64 2)))⟩, ⟨some 25, some (21, false), .mv (.t 24)⟩, ⟨some 26, some (25, true), .fa 2 (.t 1)⟩, ⟨some 27, some (25, true), .ld none (.t 26)⟩, ⟨some 28, some (25, true), .bin .neq (.t 27) (.c (.d true (.str ⟨#[]⟩)))⟩, ⟨some 29, some (21, false), .pick (.t 25) (.t 28) (.c (.d true (.bool false)))⟩, ⟨some 30, none, .pick (.t 21) (.c (.d true (.bool true))) (.t 29)⟩, ⟨some 31, none, .mv (.t 30)⟩, ⟨some 32, some (31, false), .fa 1 (.t 1)⟩, ⟨some 33, some (31, false), .ld none (.t 32)⟩, ⟨some 34, some (31, false), .call (.c (.fn 77 [])) [.t 33, .c (.d true (.int .i64 0)), .c (.d true (.int .i64 1000000))]⟩, ⟨some 35, some (31, false), .not (.t 34)⟩, ⟨some 36, none, .pick (.t 31) (.c (.d true (.bool true))) (.t 35)⟩, ⟨some 37, none, .mv (.t 36)⟩, ⟨some 38, some (37, false), .fa 2 (.t 1)⟩, ⟨some 39, some (37, false), .ld none (.t 38)⟩, ⟨some 40, some (37, false), .slen (.t 39)⟩, ⟨some 41, some (37, false), .bin .gtr (.t 40) (.c (.d true (.int .i64 300)))⟩, ⟨some 42, none, .pick (.t 37) (.c (.d true (.bool true))) (.t 41)⟩] [1, 42]) (.cond (.t 42) (.seq (.region [⟨some 2, none, .mv (.c (.d true (.bool false)))⟩] [2]) (.ret)) (.skip))) (.seq (.seq (.region [⟨some 3, none, .mv (.c (.d true (.int .i64 0)))⟩] [1, 3]) (.block 0 (.loop (.seq (.seq (.region [⟨some 43, none, .mv (.t 3)⟩, ⟨some 44, none, .fa 3 (.t 1)⟩, ⟨some 45, none, .ld none (.t 44)⟩, ⟨some 46, none, .len (.t 45)⟩, ⟨some 47, none, .bin .lss (.t 43) (.t 46)⟩] [1, 3, 47]) (.cond (.t 47) (.skip) (.exit 0))) (.seq (.block 1 (.seq (.region [⟨some 50, none, .fa 3 (.t 1)⟩, ⟨some 51, none, .ld none (.t 50)⟩, ⟨some 52, none, .mv (.t 3)⟩, ⟨some 53, none, .ia 4 (.t 51) (.t 52)⟩, ⟨some 54, none, .ld (some 4) (.t 53)⟩, ⟨some 55, none, .call (.c (.fn 64 [])) [.t 54]⟩, ⟨some 56, none, .not (.t 55)⟩] [1, 3, 56]) (.cond (.t 56) (.seq (.region [⟨some 2, none, .mv (.c (.d true (.bool false)))⟩] [2]) (.ret)) (.skip)))) (.region [⟨some 48, none, .mv (.t 3)⟩, ⟨some 49, none, .bin .add (.t 48) (.c (.d true (.int .i64 1)))⟩, ⟨some 3, none, .mv (.t 49)⟩] [1, 3])))))) (.seq (.draw [⟨some 57, none, .fa 0 (.t 1)⟩, ⟨some 58, none, .ld none (.t 57)⟩, ⟨some 59, none, .bin .neq (.t 58) (.c (.d true (.int .i64 5)))⟩, ⟨some 60, none, .mv (.t 59)⟩, ⟨some 61, some (60, false), .fa 3 (.t 1)⟩, ⟨some 62, some (60, false), .ld none (.t 61)⟩, ⟨some 63, some (60, false), .ia 4 (.t 62) (.c (.d true (.int .i64 1)))⟩, ⟨some 64, some (60, false), .ld (some 4) (.t 63)⟩, ⟨some 65, some (60, false), .fa 3 (.t 1)⟩, ⟨some 66, some (60, false), .ld none (.t 65)⟩, ⟨some 67, some (60, false), .ia 4 (.t 66) (.c (.d true (.int .i64 0)))⟩, ⟨some 68, some (60, false), .ld (some 4) (.t 67)⟩, ⟨some 69, some (60, false), .call (.c (.fn 48 [])) [.t 64, .t 68]⟩, ⟨some 70, some (60, false), .not (.t 69)⟩, ⟨some 71, none, .pick (.t 60) (.c (.d true (.bool true))) (.t 70)⟩, ⟨some 2, none, .mv (.t 71)⟩] [2]) (.ret))))
theorem ok64 : FnOk Try.prog Try.f64 72 keep64 ac64 [.t 2] := by
  refine ⟨?_, ?_, ?_, ?_, ?_⟩ <;> kernel_rfl

/-! impl.hasTerm -/
def keep65 : Nat → List Nat
  | 0 => [0, 3]
  | 1 => [4]
  | _ => []
def ac65 : AC := .seq (.region [⟨some 3, none, .box (.t 1)⟩, ⟨some 4, none, .mv (.c (.d true (.bool false)))⟩] [0, 3]) (.seq (.region [⟨some 5, none, .mv (.t 0)⟩, ⟨some 6, none, .mkf 78 [.t 3]⟩, ⟨some 7, none, .call (.c (.fn 60 [])) [.t 5, .t 6]⟩, ⟨some 4, none, .mv (.t 7)⟩] [4]) (.ret))
theorem ok65 : FnOk Try.prog Try.f65 8 keep65 ac65 [.t 4] := by
  refine ⟨?_, ?_, ?_, ?_, ?_⟩ <;> kernel_rfl

/-! spec.l2Has -/
def keep66 : Nat → List Nat
  | 0 => [0, 3]
  | 1 => [0, 3, 5]
  | 2 => [0, 3, 5, 9]
  | 3 => [0, 3, 5]
  | 4 => [0, 3, 5, 17]
  | 5 => [4]
  | 6 => [4]
  | _ => []
def ac66 : AC := .seq (.region [⟨some 3, none, .box (.t 1)⟩, ⟨some 4, none, .mv (.c (.d true (.bool false)))⟩] [0, 3]) (.seq (.seq (.region [⟨some 5, none, .mv (.c (.d true (.int .i64 0)))⟩] [0, 3, 5]) (.block 0 (.loop (.seq (.seq (.region [⟨some 6, none, .mv (.t 5)⟩, ⟨some 7, none, .mv (.t 0)⟩, ⟨some 8, none, .len (.t 7)⟩, ⟨some 9, none, .bin .lss (.t 6) (.t 8)⟩] [0, 3, 5, 9]) (.cond (.t 9) (.skip) (.exit 0))) (.seq (.block 1 (.seq (.draw [⟨some 12, none, .mv (.t 0)⟩, ⟨some 13, none, .mv (.t 5)⟩, ⟨some 14, none, .ia 4 (.t 12) (.t 13)⟩, ⟨some 15, none, .ld (some 4) (.t 14)⟩, ⟨some 16, none, .ld (some 4) (.t 3)⟩, ⟨some 17, none, .call (.c (.fn 53 [])) [.t 15, .t 16]⟩] [0, 3, 5, 17]) (.cond (.t 17) (.seq (.region [⟨some 4, none, .mv (.c (.d true (.bool true)))⟩] [4]) (.ret)) (.skip)))) (.region [⟨some 10, none, .mv (.t 5)⟩, ⟨some 11, none, .bin .add (.t 10) (.c (.d true (.int .i64 1)))⟩, ⟨some 5, none, .mv (.t 11)⟩] [0, 3, 5])))))) (.seq (.region [⟨some 4, none, .mv (.c (.d true (.bool false)))⟩] [4]) (.ret)))
theorem ok66 : FnOk Try.prog Try.f66 18 keep66 ac66 [.t 4] := by
  refine ⟨?_, ?_, ?_, ?_, ?_⟩ <;> kernel_rfl

/-! spec.l2Pub -/
def keep67 : Nat → List Nat
  | 0 => [1, 2]
  | 1 => [2]
  | _ => []
def ac67 : AC := .seq (.region [⟨some 1, none, .box (.t 0)⟩, ⟨some 2, none, .alloc [.d true (.int .i64 0), .d true (.int .i64 0), .d true (.str ⟨#[]⟩), .nil]⟩] [1, 2]) (.seq (.region [⟨some 3, none, .ld (some 4) (.t 1)⟩, ⟨some 4, none, .bs 26 4 [.t 3]⟩, ⟨some 5, none, .bld [.d true (.int .i64 0), .d true (.int .i64 0), .d true (.str ⟨#[]⟩), .nil] [(0, 1, .c (.d true (.int .i64 4))), (3, 1, .t 4)]⟩, ⟨none, none, .st 4 (.t 2) (.t 5)⟩] [2]) (.ret))
theorem ok67 : FnOk Try.prog Try.f67 6 keep67 ac67 [.c 2 (some 4)] := by
  refine ⟨?_, ?_, ?_, ?_, ?_⟩ <;> kernel_rfl

/-! impl.madePub -/
def keep68 : Nat → List Nat
  | 0 => [0, 3]
  | 1 => [4]
  | _ => []
def ac68 : AC := .seq (.region [⟨some 3, none, .box (.t 1)⟩, ⟨some 4, none, .mv (.c (.d true (.bool false)))⟩] [0, 3]) (.seq (.region [⟨some 5, none, .mv (.t 0)⟩, ⟨some 6, none, .ld (some 4) (.t 3)⟩, ⟨some 7, none, .bs 26 4 [.t 6]⟩, ⟨some 8, none, .bld [.d true (.int .i64 0), .d true (.int .i64 0), .d true (.str ⟨#[]⟩), .nil] [(0, 1, .c (.d true (.int .i64 4))), (3, 1, .t 7)]⟩, ⟨some 9, none, .call (.c (.fn 55 [])) [.t 5, .t 8]⟩, ⟨some 4, none, .mv (.t 9)⟩] [4]) (.ret))
theorem ok68 : FnOk Try.prog Try.f68 10 keep68 ac68 [.t 4] := by
  refine ⟨?_, ?_, ?_, ?_, ?_⟩ <;> kernel_rfl

/-! impl.made$1 -/
def keep69 : Nat → List Nat
  | 0 => [1, 2]
  | 1 => [3]
  | _ => []
def ac69 : AC := .seq (.region [⟨some 2, none, .box (.t 0)⟩, ⟨some 3, none, .mv (.c (.d true (.bool false)))⟩] [1, 2]) (.seq (.region [⟨some 4, none, .ld none (.t 1)⟩, ⟨some 5, none, .ld (some 4) (.t 2)⟩, ⟨some 6, none, .call (.c (.fn 55 [])) [.t 4, .t 5]⟩, ⟨some 7, none, .not (.t 6)⟩, ⟨some 3, none, .mv (.t 7)⟩] [3]) (.ret))
theorem ok69 : FnOk Try.prog Try.f69 8 keep69 ac69 [.t 3] := by
  refine ⟨?_, ?_, ?_, ?_, ?_⟩ <;> kernel_rfl

/-! spec.l1Byte -/
def keep70 : Nat → List Nat
  | 0 => [0, 1000000, 1000001]
  | 1 => [0, 1000000, 1000001]
  | 2 => [0, 3, 1000000, 1000001]
  | 3 => [0, 3, 34, 1000000, 1000001]
  | 4 => [0, 3, 1000000, 1000001]
  | 5 => [3, 1000000, 1000001]
  | 6 => [2, 1000000, 1000001]
  | _ => []
def ac70 : AC := .seq (.region [⟨some 2, none, .mv (.c (.d true (.int .i64 0)))⟩] [0, 1000000, 1000001]) (.seq (.region [⟨some 4, none, .mv (.t 0)⟩, ⟨some 5, none, .mv (.t 0)⟩, ⟨some 6, none, .ck (.t 5)⟩, ⟨some 7, none, .fa 2 (.t 6)⟩, ⟨some 8, none, .ld none (.t 7)⟩, ⟨some 9, none, .bin .mul (.t 8) (.c (.d true (.int .i64 6364136223846793005)))⟩, ⟨some 10, none, .bin .add (.t 9) (.c (.d true (.int .i64 1442695040888963407)))⟩, ⟨some 11, none, .ck (.t 4)⟩, ⟨some 12, none, .fa 2 (.t 11)⟩, ⟨none, none, .st 1 (.t 12) (.t 10)⟩] [0, 1000000, 1000001]) (.seq (.draw [⟨some 13, none, .mv (.t 0)⟩, ⟨some 14, none, .ck (.t 13)⟩, ⟨some 15, none, .fa 2 (.t 14)⟩, ⟨some 16, none, .ld none (.t 15)⟩, ⟨some 17, none, .bin .shr (.t 16) (.c (.d true (.int .u64 33)))⟩, ⟨some 18, none, .mv (.t 0)⟩, ⟨some 19, none, .ck (.t 18)⟩, ⟨some 20, none, .fa 2 (.t 19)⟩, ⟨some 21, none, .ld none (.t 20)⟩, ⟨some 22, none, .bin .shr (.t 21) (.c (.d true (.int .u64 45)))⟩, ⟨some 23, none, .bin .xor (.t 17) (.t 22)⟩, ⟨some 24, none, .bin .and (.t 23) (.c (.d true (.int .i64 255)))⟩, ⟨some 3, none, .mv (.t 24)⟩] [0, 3, 1000000, 1000001]) (.seq (.seq (.draw [⟨some 25, none, .mv (.t 0)⟩, ⟨some 26, none, .ck (.t 25)⟩, ⟨some 27, none, .fa 1 (.t 26)⟩, ⟨some 28, none, .ld none (.t 27)⟩, ⟨some 29, none, .mv (.t 0)⟩, ⟨some 30, none, .ck (.t 29)⟩, ⟨some 31, none, .fa 0 (.t 30)⟩, ⟨some 32, none, .ld none (.t 31)⟩, ⟨some 33, none, .len (.t 32)⟩, ⟨some 34, none, .bin .lss (.t 28) (.t 33)⟩] [0, 3, 34, 1000000, 1000001]) (.cond (.t 34) (.seq (.draw [⟨some 35, none, .mv (.t 3)⟩, ⟨some 36, none, .mv (.t 0)⟩, ⟨some 37, none, .ck (.t 36)⟩, ⟨some 38, none, .fa 0 (.t 37)⟩, ⟨some 39, none, .ld none (.t 38)⟩, ⟨some 40, none, .mv (.t 0)⟩, ⟨some 41, none, .ck (.t 40)⟩, ⟨some 42, none, .fa 1 (.t 41)⟩, ⟨some 43, none, .ld none (.t 42)⟩, ⟨some 44, none, .ia 1 (.t 39) (.t 43)⟩, ⟨some 45, none, .ld none (.t 44)⟩, ⟨some 46, none, .cvi .i64 (.t 45)⟩, ⟨some 47, none, .bin .add (.t 35) (.t 46)⟩, ⟨some 48, none, .bin .and (.t 47) (.c (.d true (.int .i64 255)))⟩, ⟨some 3, none, .mv (.t 48)⟩] [0, 3, 1000000, 1000001]) (.region [⟨some 49, none, .mv (.t 0)⟩, ⟨some 50, none, .mv (.t 0)⟩, ⟨some 51, none, .ck (.t 50)⟩, ⟨some 52, none, .fa 1 (.t 51)⟩, ⟨some 53, none, .ld none (.t 52)⟩, ⟨some 54, none, .bin .add (.t 53) (.c (.d true (.int .i64 1)))⟩, ⟨some 55, none, .ck (.t 49)⟩, ⟨some 56, none, .fa 1 (.t 55)⟩, ⟨none, none, .st 1 (.t 56) (.t 54)⟩] [3, 1000000, 1000001])) (.skip))) (.seq (.region [⟨some 57, none, .mv (.t 3)⟩, ⟨some 2, none, .mv (.t 57)⟩] [2, 1000000, 1000001]) (.ret)))))
theorem ok70 : FnOk Try.prog Try.f70 58 keep70 ac70 [.t 2] := by
  refine ⟨?_, ?_, ?_, ?_, ?_⟩ <;> kernel_rfl

/-! spec.l1Pick -/
def keep71 : Nat → List Nat
  | 0 => [0, 1, 1000000, 1000001]
  | 1 => [4, 1000000, 1000001]
  | _ => []
def ac71 : AC := .seq (.region [⟨some 4, none, .mv (.c (.d true (.str ⟨#[]⟩)))⟩] [0, 1, 1000000, 1000001]) (.seq (.region [⟨some 5, none, .mv (.t 1)⟩, ⟨some 6, none, .mv (.t 0)⟩, ⟨some 7, none, .mv (.t 1)⟩, ⟨some 8, none, .len (.t 7)⟩, ⟨some 9, none, .call (.c (.fn 56 [])) [.t 6, .t 8]⟩, ⟨some 10, none, .ia 1 (.t 5) (.t 9)⟩, ⟨some 11, none, .ld none (.t 10)⟩, ⟨some 4, none, .mv (.t 11)⟩] [4, 1000000, 1000001]) (.ret))
theorem ok71 : FnOk Try.prog Try.f71 12 keep71 ac71 [.t 4] := by
  refine ⟨?_, ?_, ?_, ?_, ?_⟩ <;> kernel_rfl

/-! spec.Seal -/
def keep72 : Nat → List Nat
  | 0 => [1, 3, 5, 6]
  | 1 => [6]
  | 1000001 => [1]
  | _ => []
def ac72 : AC := .seq (.region [⟨some 3, none, .box (.t 0)⟩, ⟨some 5, none, .box (.t 2)⟩, ⟨some 6, none, .alloc [.d true (.int .i64 0), .d true (.int .i64 0), .d true (.str ⟨#[]⟩), .nil]⟩] [1, 3, 5, 6]) (.seq (.tree (.take ⟨some 7, none, .ld (some 4) (.t 3)⟩ (.take ⟨some 8, none, .mv (.t 1)⟩ (.take ⟨some 10, none, .ld (some 4) (.t 5)⟩ (.br (.cons ⟨some 9, none, .call (.c (.fn 79 [])) [.t 8]⟩ (.br (.cons ⟨some 11, none, .call (.c (.fn 16 [])) [.t 9, .t 10]⟩ (.br (.cons ⟨some 12, none, .call (.c (.fn 41 [])) [.c (.d true (.int .i64 7)), .t 7, .t 11]⟩ (.br (.cons ⟨none, none, .st 4 (.t 6) (.t 12)⟩ (.done) (.nil))) (.nil))) (.nil))) (.nil)))))) [6]) (.ret))
theorem ok72 : FnOk Try.prog Try.f72 13 keep72 ac72 [.c 6 (some 4)] := by
  refine ⟨?_, ?_, ?_, ?_, ?_⟩ <;> kernel_rfl

/-! spec.Sign -/
def keep73 : Nat → List Nat
  | 0 => [2, 3, 4]
  | 1 => [4]
  | _ => []
def ac73 : AC := .seq (.region [⟨some 2, none, .box (.t 0)⟩, ⟨some 3, none, .box (.t 1)⟩, ⟨some 4, none, .alloc [.d true (.int .i64 0), .d true (.int .i64 0), .d true (.str ⟨#[]⟩), .nil]⟩] [2, 3, 4]) (.seq (.region [⟨some 5, none, .ld (some 4) (.t 2)⟩, ⟨some 6, none, .ld (some 4) (.t 3)⟩, ⟨some 7, none, .call (.c (.fn 41 [])) [.c (.d true (.int .i64 8)), .t 5, .t 6]⟩, ⟨none, none, .st 4 (.t 4) (.t 7)⟩] [4]) (.ret))
theorem ok73 : FnOk Try.prog Try.f73 8 keep73 ac73 [.c 4 (some 4)] := by
  refine ⟨?_, ?_, ?_, ?_, ?_⟩ <;> kernel_rfl

/-! impl.cloneAll -/
def keep74 : Nat → List Nat
  | 0 => [0]
  | 1 => [0, 3]
  | 2 => [3, 6, 7, 8]
  | 3 => [3, 6, 7, 8, 9]
  | 4 => [3, 5, 6, 7, 8]
  | 5 => [3, 6, 7, 8]
  | 6 => [3, 6, 7, 8]
  | 7 => [2]
  | _ => []
def ac74 : AC := .seq (.region [⟨some 2, none, .own 26 4⟩] [0]) (.seq (.region [⟨some 3, none, .own 26 4⟩] [0, 3]) (.seq (.seq (.region [⟨some 6, none, .mv (.t 0)⟩, ⟨some 7, none, .len (.t 6)⟩, ⟨some 8, none, .mv (.c (.d true (.int .i64 0)))⟩] [3, 6, 7, 8]) (.block 0 (.loop (.seq (.region [⟨some 9, none, .bin .lss (.t 8) (.t 7)⟩] [3, 6, 7, 8, 9]) (.seq (.cond (.t 9) (.skip) (.exit 0)) (.seq (.block 1 (.seq (.region [⟨some 10, none, .ia 4 (.t 6) (.t 8)⟩, ⟨some 11, none, .ld (some 4) (.t 10)⟩, ⟨some 5, none, .alloc [.d true (.int .i64 0), .d true (.int .i64 0), .d true (.str ⟨#[]⟩), .nil]⟩, ⟨none, none, .st 4 (.t 5) (.t 11)⟩] [3, 5, 6, 7, 8]) (.region [⟨some 12, none, .mv (.t 3)⟩, ⟨some 13, none, .ld (some 4) (.t 5)⟩, ⟨some 14, none, .call (.c (.fn 58 [])) [.t 13]⟩, ⟨some 15, none, .bs 26 4 [.t 14]⟩, ⟨some 16, none, .app 26 4 56 (.t 12) (.t 15)⟩, ⟨some 3, none, .mv (.t 16)⟩] [3, 6, 7, 8]))) (.region [⟨some 17, none, .bin .add (.t 8) (.c (.d true (.int .i64 1)))⟩, ⟨some 8, none, .mv (.t 17)⟩] [3, 6, 7, 8]))))))) (.seq (.region [⟨some 18, none, .mv (.t 3)⟩, ⟨some 2, none, .mv (.t 18)⟩] [2]) (.ret))))
theorem ok74 : FnOk Try.prog Try.f74 19 keep74 ac74 [.t 2] := by
  refine ⟨?_, ?_, ?_, ?_, ?_⟩ <;> kernel_rfl

/-! slices.IndexFunc[[]impl.Term,impl.Term] -/
def keep75 : Nat → List Nat
  | 0 => [0, 1]
  | 1 => [0, 1, 7, 8]
  | 2 => [0, 1, 7, 8, 9]
  | 3 => [0, 1, 5, 7, 8]
  | 4 => [0, 1, 5, 7, 8, 16]
  | 5 => [4]
  | 6 => [0, 1, 7, 8]
  | 7 => [4]
  | _ => []
def ac75 : AC := .seq (.region [⟨some 4, none, .mv (.c (.d true (.int .i64 0)))⟩] [0, 1]) (.seq (.seq (.region [⟨some 6, none, .mv (.t 0)⟩, ⟨some 7, none, .len (.t 6)⟩, ⟨some 8, none, .mv (.c (.d true (.int .i64 0)))⟩] [0, 1, 7, 8]) (.block 0 (.loop (.seq (.region [⟨some 9, none, .bin .lss (.t 8) (.t 7)⟩] [0, 1, 7, 8, 9]) (.seq (.cond (.t 9) (.skip) (.exit 0)) (.seq (.block 1 (.seq (.region [⟨some 10, none, .mv (.t 8)⟩, ⟨some 5, none, .mv (.t 10)⟩] [0, 1, 5, 7, 8]) (.seq (.region [⟨some 11, none, .mv (.t 1)⟩, ⟨some 12, none, .mv (.t 0)⟩, ⟨some 13, none, .mv (.t 5)⟩, ⟨some 14, none, .ia 4 (.t 12) (.t 13)⟩, ⟨some 15, none, .ld (some 4) (.t 14)⟩, ⟨some 16, none, .call (.t 11) [.t 15]⟩] [0, 1, 5, 7, 8, 16]) (.cond (.t 16) (.seq (.region [⟨some 17, none, .mv (.t 5)⟩, ⟨some 4, none, .mv (.t 17)⟩] [4]) (.ret)) (.skip))))) (.region [⟨some 18, none, .bin .add (.t 8) (.c (.d true (.int .i64 1)))⟩, ⟨some 8, none, .mv (.t 18)⟩] [0, 1, 7, 8]))))))) (.seq (.region [⟨some 4, none, .mv (.c (.d true (.int .i64 (-1))))⟩] [4]) (.ret)))
theorem ok75 : FnOk Try.prog Try.f75 19 keep75 ac75 [.t 4] := by
  refine ⟨?_, ?_, ?_, ?_, ?_⟩ <;> kernel_rfl

/-! spec.l1Kids -/
def keep76 : Nat → List Nat
  | 0 => [0]
  | 1 => [3]
  | 2 => [3, 4]
  | 3 => [3, 4]
  | 4 => [2]
  | 5 => [3, 7]
  | 6 => [3, 7]
  | 7 => [2]
  | 8 => [3, 10]
  | 9 => [3, 10]
  | 10 => [3, 10]
  | 11 => [10]
  | 12 => [2]
  | 13 => [2]
  | _ => []
def ac76 : AC := .seq (.region [⟨some 2, none, .mv (.c (.d true (.int .i64 0)))⟩] [0]) (.seq (.seq (.region [⟨some 3, none, .mv (.t 0)⟩] [3]) (.block 0 (.seq (.seq (.region [⟨some 5, none, .bin .eql (.t 3) (.c (.d true (.int .i64 1)))⟩, ⟨some 4, none, .mv (.t 5)⟩] [3, 4]) (.cond (.t 4) (.skip) (.region [⟨some 6, none, .bin .eql (.t 3) (.c (.d true (.int .i64 2)))⟩, ⟨some 4, none, .mv (.t 6)⟩] [3, 4]))) (.cond (.t 4) (.seq (.region [⟨some 2, none, .mv (.c (.d true (.int .i64 0)))⟩] [2]) (.ret)) (.seq (.seq (.region [⟨some 8, none, .bin .eql (.t 3) (.c (.d true (.int .i64 4)))⟩, ⟨some 7, none, .mv (.t 8)⟩] [3, 7]) (.cond (.t 7) (.skip) (.region [⟨some 9, none, .bin .eql (.t 3) (.c (.d true (.int .i64 6)))⟩, ⟨some 7, none, .mv (.t 9)⟩] [3, 7]))) (.cond (.t 7) (.seq (.region [⟨some 2, none, .mv (.c (.d true (.int .i64 1)))⟩] [2]) (.ret)) (.seq (.seq (.region [⟨some 11, none, .bin .eql (.t 3) (.c (.d true (.int .i64 3)))⟩, ⟨some 10, none, .mv (.t 11)⟩] [3, 10]) (.cond (.t 10) (.skip) (.seq (.region [⟨some 12, none, .bin .eql (.t 3) (.c (.d true (.int .i64 5)))⟩, ⟨some 10, none, .mv (.t 12)⟩] [3, 10]) (.cond (.t 10) (.skip) (.seq (.region [⟨some 13, none, .bin .eql (.t 3) (.c (.d true (.int .i64 7)))⟩, ⟨some 10, none, .mv (.t 13)⟩] [3, 10]) (.cond (.t 10) (.skip) (.region [⟨some 14, none, .bin .eql (.t 3) (.c (.d true (.int .i64 8)))⟩, ⟨some 10, none, .mv (.t 14)⟩] [10]))))))) (.cond (.t 10) (.seq (.region [⟨some 2, none, .mv (.c (.d true (.int .i64 2)))⟩] [2]) (.ret)) (.skip))))))))) (.seq (.region [⟨some 2, none, .mv (.c (.d true (.int .i64 (-1))))⟩] [2]) (.ret)))
theorem ok76 : FnOk Try.prog Try.f76 15 keep76 ac76 [.t 2] := by
  refine ⟨?_, ?_, ?_, ?_, ?_⟩ <;> kernel_rfl

/-! spec.l1In -/
def keep77 : Nat → List Nat
  | 0 => [0, 1, 2]
  | 1 => [6]
  | _ => []
def ac77 : AC := .seq (.region [⟨some 6, none, .mv (.c (.d true (.bool false)))⟩] [0, 1, 2]) (.seq (.region [⟨some 7, none, .mv (.t 0)⟩, ⟨some 8, none, .mv (.t 1)⟩, ⟨some 9, none, .bin .geq (.t 7) (.t 8)⟩, ⟨some 10, none, .mv (.t 9)⟩, ⟨some 11, some (10, true), .mv (.t 0)⟩, ⟨some 12, some (10, true), .mv (.t 2)⟩, ⟨some 13, some (10, true), .bin .leq (.t 11) (.t 12)⟩, ⟨some 14, none, .pick (.t 10) (.t 13) (.c (.d true (.bool false)))⟩, ⟨some 6, none, .mv (.t 14)⟩] [6]) (.ret))
theorem ok77 : FnOk Try.prog Try.f77 15 keep77 ac77 [.t 6] := by
  refine ⟨?_, ?_, ?_, ?_, ?_⟩ <;> kernel_rfl

/-! impl.hasTerm$1 -/
def keep78 : Nat → List Nat
  | 0 => [1, 2]
  | 1 => [3]
  | _ => []
def ac78 : AC := .seq (.region [⟨some 2, none, .box (.t 0)⟩, ⟨some 3, none, .mv (.c (.d true (.bool false)))⟩] [1, 2]) (.seq (.region [⟨some 4, none, .ld (some 4) (.t 2)⟩, ⟨some 5, none, .ld (some 4) (.t 1)⟩, ⟨some 6, none, .call (.c (.fn 15 [])) [.t 4, .t 5]⟩, ⟨some 3, none, .mv (.t 6)⟩] [3]) (.ret))
theorem ok78 : FnOk Try.prog Try.f78 7 keep78 ac78 [.t 3] := by
  refine ⟨?_, ?_, ?_, ?_, ?_⟩ <;> kernel_rfl

/-! spec.l3Num -/
def keep79 : Nat → List Nat
  | 0 => [0, 2]
  | 1 => [2]
  | _ => []
def ac79 : AC := .seq (.region [⟨some 2, none, .alloc [.d true (.int .i64 0), .d true (.int .i64 0), .d true (.str ⟨#[]⟩), .nil]⟩] [0, 2]) (.seq (.region [⟨some 3, none, .mv (.t 0)⟩, ⟨some 4, none, .call (.c (.fn 80 [])) [.t 3]⟩, ⟨some 5, none, .bld [.d true (.int .i64 0), .d true (.int .i64 0), .d true (.str ⟨#[]⟩), .nil] [(0, 1, .c (.d true (.int .i64 2))), (2, 1, .t 4)]⟩, ⟨none, none, .st 4 (.t 2) (.t 5)⟩] [2]) (.ret))
theorem ok79 : FnOk Try.prog Try.f79 6 keep79 ac79 [.c 2 (some 4)] := by
  refine ⟨?_, ?_, ?_, ?_, ?_⟩ <;> kernel_rfl

/-! spec.l1Digits -/
def keep80 : Nat → List Nat
  | 0 => [0]
  | 1 => [0, 7]
  | 2 => [2]
  | 3 => [0, 3]
  | 4 => [0, 3, 4]
  | 5 => [0, 3, 4, 11]
  | 6 => [0, 3, 4, 5]
  | 7 => [0, 3, 4, 5, 15]
  | 8 => [0, 3, 4, 5]
  | 9 => [0, 3, 4]
  | 10 => [0, 3, 4]
  | 11 => [4, 27]
  | 12 => [2]
  | 13 => [2]
  | _ => []
def ac80 : AC := .seq (.region [⟨some 2, none, .mv (.c (.d true (.str ⟨#[]⟩)))⟩] [0]) (.seq (.seq (.region [⟨some 6, none, .mv (.t 0)⟩, ⟨some 7, none, .bin .eql (.t 6) (.c (.d true (.int .i64 0)))⟩] [0, 7]) (.cond (.t 7) (.seq (.region [⟨some 2, none, .mv (.c (.d true (.str ⟨#[48]⟩)))⟩] [2]) (.ret)) (.skip))) (.seq (.region [⟨some 8, none, .mv (.t 0)⟩, ⟨some 9, none, .bin .lss (.t 8) (.c (.d true (.int .i64 0)))⟩, ⟨some 3, none, .mv (.t 9)⟩] [0, 3]) (.seq (.region [⟨some 4, none, .mv (.c (.d true (.str ⟨#[]⟩)))⟩] [0, 3, 4]) (.seq (.block 0 (.loop (.seq (.seq (.region [⟨some 10, none, .mv (.t 0)⟩, ⟨some 11, none, .bin .neq (.t 10) (.c (.d true (.int .i64 0)))⟩] [0, 3, 4, 11]) (.cond (.t 11) (.skip) (.exit 0))) (.block 1 (.seq (.region [⟨some 12, none, .mv (.t 0)⟩, ⟨some 13, none, .bin .rem (.t 12) (.c (.d true (.int .i64 10)))⟩, ⟨some 5, none, .mv (.t 13)⟩] [0, 3, 4, 5]) (.seq (.seq (.region [⟨some 14, none, .mv (.t 5)⟩, ⟨some 15, none, .bin .lss (.t 14) (.c (.d true (.int .i64 0)))⟩] [0, 3, 4, 5, 15]) (.cond (.t 15) (.region [⟨some 16, none, .mv (.t 5)⟩, ⟨some 17, none, .bin .sub (.c (.d true (.int .i64 0))) (.t 16)⟩, ⟨some 5, none, .mv (.t 17)⟩] [0, 3, 4, 5]) (.skip))) (.seq (.region [⟨some 18, none, .mv (.t 5)⟩, ⟨some 19, none, .bin .add (.c (.d true (.int .i64 48))) (.t 18)⟩, ⟨some 20, none, .cvi .u8 (.t 19)⟩, ⟨some 21, none, .bs 5 1 [.t 20]⟩, ⟨some 22, none, .bstr (.t 21)⟩, ⟨some 23, none, .mv (.t 4)⟩, ⟨some 24, none, .bin .add (.t 22) (.t 23)⟩, ⟨some 4, none, .mv (.t 24)⟩] [0, 3, 4]) (.region [⟨some 25, none, .mv (.t 0)⟩, ⟨some 26, none, .bin .quo (.t 25) (.c (.d true (.int .i64 10)))⟩, ⟨some 0, none, .mv (.t 26)⟩] [0, 3, 4])))))))) (.seq (.seq (.region [⟨some 27, none, .mv (.t 3)⟩] [4, 27]) (.cond (.t 27) (.seq (.region [⟨some 28, none, .mv (.t 4)⟩, ⟨some 29, none, .bin .add (.c (.d true (.str ⟨#[45]⟩))) (.t 28)⟩, ⟨some 2, none, .mv (.t 29)⟩] [2]) (.ret)) (.skip))) (.seq (.region [⟨some 30, none, .mv (.t 4)⟩, ⟨some 2, none, .mv (.t 30)⟩] [2]) (.ret)))))))
theorem ok80 : FnOk Try.prog Try.f80 31 keep80 ac80 [.t 2] := by
  refine ⟨?_, ?_, ?_, ?_, ?_⟩ <;> kernel_rfl

end Go.Proofs.Ytlddcimpdkcgeaa
