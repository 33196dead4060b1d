/- Functions, as code over abstract states. -/
import Derived.Test.YtlddcimpdkcgeaaS12
import Derived.Test.YtlddcimpdkcgeaaProg
set_option linter.unusedVariables false
set_option linter.unusedSimpArgs false
set_option maxRecDepth 100000
namespace Go.Proofs.Ytlddcimpdkcgeaa
open Go.RowKit Sym

theorem mo : Try.prog.follows .mixedOrders = true:=by kernel_rfl
/-! laws.FnMaking: too many orders -/

/-! laws.FnAgrees -/
/-! laws.FnKnows -/
/-! laws.big -/
def keep6 : Nat → List Nat
  | 0 => [0]
  | 1 => [2]
  | _ => []
def ac6 : AC:=.seq (.region [⟨some 2,none,.mv (.c (.d true (.bool false)))⟩] [0]) (.seq (.region [⟨some 3,none,.mv (.t 0)⟩,⟨some 4,none,.len (.t 3)⟩,⟨some 5,none,.bin .gtr (.t 4) (.c (.d true (.int .i64 1048576)))⟩,⟨some 2,none,.mv (.t 5)⟩] [2]) (.ret))
theorem ok6 : FnOk Try.prog Try.f6 6 keep6 ac6 [.t 2]:=by
  refine ⟨?_,?_,?_,?_,?_⟩ <;> kernel_rfl

/-! spec.DrawPair -/
def keep7 : Nat → List Nat
  | 0 => [0,2,3]
  | 1 => [2,3,4,5]
  | 2 => [2,3]
  | 1000002 => [1]
  | _ => []
def ac7 : AC:=.seq (.region [⟨some 2,none,.alloc [.d true (.int .i64 0),.d true (.int .i64 0),.d true (.str ⟨#[]⟩),.nil]⟩,⟨some 3,none,.alloc [.d true (.int .i64 0),.d true (.int .i64 0),.d true (.str ⟨#[]⟩),.nil]⟩] [0,2,3]) (.seq (.region [⟨some 7,none,.mv (.t 0)⟩,⟨some 8,none,.call (.c (.fn 35 [])) [.t 7]⟩,⟨some 6,none,.mv (.t 8)⟩,⟨some 9,none,.ext (.t 6) 0⟩,⟨some 10,none,.ext (.t 6) 1⟩,⟨some 4,none,.alloc [.d true (.int .i64 0),.d true (.int .i64 0),.d true (.str ⟨#[]⟩),.nil]⟩,⟨some 5,none,.alloc [.d true (.int .i64 0),.d true (.int .i64 0),.d true (.str ⟨#[]⟩),.nil]⟩,⟨none,none,.st 4 (.t 4) (.t 9)⟩,⟨none,none,.st 4 (.t 5) (.t 10)⟩] [2,3,4,5]) (.seq (.tree (.take ⟨some 11,none,.ld (some 4) (.t 4)⟩ (.take ⟨some 12,none,.ld (some 4) (.t 5)⟩ (.br (.cons ⟨none,none,.st 4 (.t 2) (.t 11)⟩ (.br (.cons ⟨none,none,.st 4 (.t 3) (.t 12)⟩ (.done) (.nil))) (.nil))))) [2,3]) (.ret)))
theorem ok7 : FnOk Try.prog Try.f7 13 keep7 ac7 [.c 2 (some 4),.c 3 (some 4)]:=by
  refine ⟨?_,?_,?_,?_,?_⟩ <;> kernel_rfl

/-! spec.DrawAtom -/
def keep8 : Nat → List Nat
  | 0 => [0]
  | 1 => [2]
  | _ => []
def ac8 : AC:=.seq (.region [⟨some 2,none,.mv (.c (.d true (.int .i64 0)))⟩] [0]) (.seq (.region [⟨some 3,none,.mv (.t 0)⟩,⟨some 4,none,.call (.c (.fn 37 [])) [.t 3]⟩,⟨some 5,none,.bs 3 1 [.c (.d true (.int .i64 0)),.c (.d true (.int .i64 1)),.c (.d true (.int .i64 77)),.c (.d true (.int .i64 1000000)),.c (.d true (.int .i64 1000001)),.c (.d true (.int .i64 (-1)))]⟩,⟨some 6,none,.call (.c (.fn 36 [])) [.t 4,.t 5]⟩,⟨some 2,none,.mv (.t 6)⟩] [2]) (.ret))
theorem ok8 : FnOk Try.prog Try.f8 7 keep8 ac8 [.t 2]:=by
  refine ⟨?_,?_,?_,?_,?_⟩ <;> kernel_rfl

/-! spec.DrawPub -/
def keep9 : Nat → List Nat
  | 0 => [0,2]
  | 1 => [2]
  | _ => []
def ac9 : AC:=.seq (.region [⟨some 2,none,.alloc [.d true (.int .i64 0),.d true (.int .i64 0),.d true (.str ⟨#[]⟩),.nil]⟩] [0,2]) (.seq (.region [⟨some 3,none,.mv (.t 0)⟩,⟨some 4,none,.call (.c (.fn 37 [])) [.t 3]⟩,⟨some 5,none,.call (.c (.fn 38 [])) [.t 4]⟩,⟨none,none,.st 4 (.t 2) (.t 5)⟩] [2]) (.ret))
theorem ok9 : FnOk Try.prog Try.f9 6 keep9 ac9 [.c 2 (some 4)]:=by
  refine ⟨?_,?_,?_,?_,?_⟩ <;> kernel_rfl

/-! spec.DrawHash -/
def keep10 : Nat → List Nat
  | 0 => [0,2]
  | 1 => [2]
  | _ => []
def ac10 : AC:=.seq (.region [⟨some 2,none,.alloc [.d true (.int .i64 0),.d true (.int .i64 0),.d true (.str ⟨#[]⟩),.nil]⟩] [0,2]) (.seq (.region [⟨some 3,none,.mv (.t 0)⟩,⟨some 4,none,.call (.c (.fn 37 [])) [.t 3]⟩,⟨some 5,none,.call (.c (.fn 38 [])) [.t 4]⟩,⟨none,none,.st 4 (.t 2) (.t 5)⟩] [2]) (.ret))
theorem ok10 : FnOk Try.prog Try.f10 6 keep10 ac10 [.c 2 (some 4)]:=by
  refine ⟨?_,?_,?_,?_,?_⟩ <;> kernel_rfl

/-! impl.Pair -/
def keep11 : Nat → List Nat
  | 0 => [2,3,4]
  | 1 => [4]
  | _ => []
def ac11 : AC:=.seq (.region [⟨some 2,none,.box (.t 0)⟩,⟨some 3,none,.box (.t 1)⟩,⟨some 4,none,.alloc [.d true (.int .i64 0),.d true (.int .i64 0),.d true (.str ⟨#[]⟩),.nil]⟩] [2,3,4]) (.seq (.region [⟨some 5,none,.ld (some 4) (.t 2)⟩,⟨some 6,none,.ld (some 4) (.t 3)⟩,⟨some 7,none,.bs 26 4 [.t 5,.t 6]⟩,⟨some 8,none,.bld [.d true (.int .i64 0),.d true (.int .i64 0),.d true (.str ⟨#[]⟩),.nil] [(0,1,.c (.d true (.int .i64 3))),(3,1,.t 7)]⟩,⟨some 9,none,.call (.c (.fn 39 [])) [.t 8]⟩,⟨none,none,.st 4 (.t 4) (.t 9)⟩] [4]) (.ret))
theorem ok11 : FnOk Try.prog Try.f11 10 keep11 ac11 [.c 4 (some 4)]:=by
  refine ⟨?_,?_,?_,?_,?_⟩ <;> kernel_rfl

/-! impl.Atom -/
def keep12 : Nat → List Nat
  | 0 => [0,2]
  | 1 => [2]
  | _ => []
def ac12 : AC:=.seq (.region [⟨some 2,none,.alloc [.d true (.int .i64 0),.d true (.int .i64 0),.d true (.str ⟨#[]⟩),.nil]⟩] [0,2]) (.seq (.region [⟨some 3,none,.mv (.t 0)⟩,⟨some 4,none,.bld [.d true (.int .i64 0),.d true (.int .i64 0),.d true (.str ⟨#[]⟩),.nil] [(0,1,.c (.d true (.int .i64 1))),(1,1,.t 3)]⟩,⟨some 5,none,.call (.c (.fn 39 [])) [.t 4]⟩,⟨none,none,.st 4 (.t 2) (.t 5)⟩] [2]) (.ret))
theorem ok12 : FnOk Try.prog Try.f12 6 keep12 ac12 [.c 2 (some 4)]:=by
  refine ⟨?_,?_,?_,?_,?_⟩ <;> kernel_rfl

/-! impl.Pub -/
def keep13 : Nat → List Nat
  | 0 => [1,2]
  | 1 => [2]
  | _ => []
def ac13 : AC:=.seq (.region [⟨some 1,none,.box (.t 0)⟩,⟨some 2,none,.alloc [.d true (.int .i64 0),.d true (.int .i64 0),.d true (.str ⟨#[]⟩),.nil]⟩] [1,2]) (.seq (.region [⟨some 3,none,.ld (some 4) (.t 1)⟩,⟨some 4,none,.bs 26 4 [.t 3]⟩,⟨some 5,none,.bld [.d true (.int .i64 0),.d true (.int .i64 0),.d true (.str ⟨#[]⟩),.nil] [(0,1,.c (.d true (.int .i64 4))),(3,1,.t 4)]⟩,⟨some 6,none,.call (.c (.fn 39 [])) [.t 5]⟩,⟨none,none,.st 4 (.t 2) (.t 6)⟩] [2]) (.ret))
theorem ok13 : FnOk Try.prog Try.f13 7 keep13 ac13 [.c 2 (some 4)]:=by
  refine ⟨?_,?_,?_,?_,?_⟩ <;> kernel_rfl

/-! impl.Hash -/
def keep14 : Nat → List Nat
  | 0 => [1,2]
  | 1 => [2]
  | _ => []
def ac14 : AC:=.seq (.region [⟨some 1,none,.box (.t 0)⟩,⟨some 2,none,.alloc [.d true (.int .i64 0),.d true (.int .i64 0),.d true (.str ⟨#[]⟩),.nil]⟩] [1,2]) (.seq (.region [⟨some 3,none,.ld (some 4) (.t 1)⟩,⟨some 4,none,.bs 26 4 [.t 3]⟩,⟨some 5,none,.bld [.d true (.int .i64 0),.d true (.int .i64 0),.d true (.str ⟨#[]⟩),.nil] [(0,1,.c (.d true (.int .i64 6))),(3,1,.t 4)]⟩,⟨some 6,none,.call (.c (.fn 39 [])) [.t 5]⟩,⟨none,none,.st 4 (.t 2) (.t 6)⟩] [2]) (.ret))
theorem ok14 : FnOk Try.prog Try.f14 7 keep14 ac14 [.c 2 (some 4)]:=by
  refine ⟨?_,?_,?_,?_,?_⟩ <;> kernel_rfl

/-! impl.Same -/
def keep15 : Nat → List Nat
  | 0 => [2,3]
  | 1 => [4]
  | _ => []
def ac15 : AC:=.seq (.region [⟨some 2,none,.box (.t 0)⟩,⟨some 3,none,.box (.t 1)⟩,⟨some 4,none,.mv (.c (.d true (.bool false)))⟩] [2,3]) (.seq (.region [⟨some 5,none,.fa 0 (.t 2)⟩,⟨some 6,none,.ld none (.t 5)⟩,⟨some 7,none,.fa 0 (.t 3)⟩,⟨some 8,none,.ld none (.t 7)⟩,⟨some 9,none,.bin .eql (.t 6) (.t 8)⟩,⟨some 10,none,.mv (.t 9)⟩,⟨some 11,some (10,true),.fa 1 (.t 2)⟩,⟨some 12,some (10,true),.ld none (.t 11)⟩,⟨some 13,some (10,true),.fa 1 (.t 3)⟩,⟨some 14,some (10,true),.ld none (.t 13)⟩,⟨some 15,some (10,true),.bin .eql (.t 12) (.t 14)⟩,⟨some 16,none,.pick (.t 10) (.t 15) (.c (.d true (.bool false)))⟩,⟨some 17,none,.mv (.t 16)⟩,⟨some 18,some (17,true),.fa 2 (.t 2)⟩,⟨some 19,some (17,true),.ld none (.t 18)⟩,⟨some 20,some (17,true),.fa 2 (.t 3)⟩,⟨some 21,some (17,true),.ld none (.t 20)⟩,⟨some 22,some (17,true),.bin .eql (.t 19) (.t 21)⟩,⟨some 23,none,.pick (.t 17) (.t 22) (.c (.d true (.bool false)))⟩,⟨some 24,none,.mv (.t 23)⟩,⟨some 25,some (24,true),.fa 3 (.t 2)⟩,⟨some 26,some (24,true),.ld none (.t 25)⟩,⟨some 27,some (24,true),.fa 3 (.t 3)⟩,⟨some 28,some (24,true),.ld none (.t 27)⟩,⟨some 29,some (24,true),.call (.c (.fn 40 [])) [.t 26,.t 28,.c (.fn 15 [])]⟩,⟨some 30,none,.pick (.t 24) (.t 29) (.c (.d true (.bool false)))⟩,⟨some 4,none,.mv (.t 30)⟩] [4]) (.ret))
theorem ok15 : FnOk Try.prog Try.f15 31 keep15 ac15 [.t 4]:=by
  refine ⟨?_,?_,?_,?_,?_⟩ <;> kernel_rfl

/-! spec.Pair -/
def keep16 : Nat → List Nat
  | 0 => [2,3,4]
  | 1 => [4]
  | _ => []
def ac16 : AC:=.seq (.region [⟨some 2,none,.box (.t 0)⟩,⟨some 3,none,.box (.t 1)⟩,⟨some 4,none,.alloc [.d true (.int .i64 0),.d true (.int .i64 0),.d true (.str ⟨#[]⟩),.nil]⟩] [2,3,4]) (.seq (.region [⟨some 5,none,.ld (some 4) (.t 2)⟩,⟨some 6,none,.ld (some 4) (.t 3)⟩,⟨some 7,none,.call (.c (.fn 41 [])) [.c (.d true (.int .i64 3)),.t 5,.t 6]⟩,⟨none,none,.st 4 (.t 4) (.t 7)⟩] [4]) (.ret))
theorem ok16 : FnOk Try.prog Try.f16 8 keep16 ac16 [.c 4 (some 4)]:=by
  refine ⟨?_,?_,?_,?_,?_⟩ <;> kernel_rfl

/-! spec.Atom -/
def keep17 : Nat → List Nat
  | 0 => [0,2]
  | 1 => [2]
  | _ => []
def ac17 : AC:=.seq (.region [⟨some 2,none,.alloc [.d true (.int .i64 0),.d true (.int .i64 0),.d true (.str ⟨#[]⟩),.nil]⟩] [0,2]) (.seq (.region [⟨some 3,none,.mv (.t 0)⟩,⟨some 4,none,.bld [.d true (.int .i64 0),.d true (.int .i64 0),.d true (.str ⟨#[]⟩),.nil] [(0,1,.c (.d true (.int .i64 1))),(1,1,.t 3)]⟩,⟨some 5,none,.call (.c (.fn 42 [])) [.t 4]⟩,⟨none,none,.st 4 (.t 2) (.t 5)⟩] [2]) (.ret))
theorem ok17 : FnOk Try.prog Try.f17 6 keep17 ac17 [.c 2 (some 4)]:=by
  refine ⟨?_,?_,?_,?_,?_⟩ <;> kernel_rfl

/-! spec.Pub -/
def keep18 : Nat → List Nat
  | 0 => [1,2]
  | 1 => [2]
  | _ => []
def ac18 : AC:=.seq (.region [⟨some 1,none,.box (.t 0)⟩,⟨some 2,none,.alloc [.d true (.int .i64 0),.d true (.int .i64 0),.d true (.str ⟨#[]⟩),.nil]⟩] [1,2]) (.seq (.region [⟨some 3,none,.ld (some 4) (.t 1)⟩,⟨some 4,none,.call (.c (.fn 43 [])) [.t 3]⟩,⟨some 5,none,.bs 26 4 [.t 4]⟩,⟨some 6,none,.bld [.d true (.int .i64 0),.d true (.int .i64 0),.d true (.str ⟨#[]⟩),.nil] [(0,1,.c (.d true (.int .i64 4))),(3,1,.t 5)]⟩,⟨some 7,none,.call (.c (.fn 42 [])) [.t 6]⟩,⟨none,none,.st 4 (.t 2) (.t 7)⟩] [2]) (.ret))
theorem ok18 : FnOk Try.prog Try.f18 8 keep18 ac18 [.c 2 (some 4)]:=by
  refine ⟨?_,?_,?_,?_,?_⟩ <;> kernel_rfl

/-! spec.Hash -/
def keep19 : Nat → List Nat
  | 0 => [1,2]
  | 1 => [2]
  | _ => []
def ac19 : AC:=.seq (.region [⟨some 1,none,.box (.t 0)⟩,⟨some 2,none,.alloc [.d true (.int .i64 0),.d true (.int .i64 0),.d true (.str ⟨#[]⟩),.nil]⟩] [1,2]) (.seq (.region [⟨some 3,none,.ld (some 4) (.t 1)⟩,⟨some 4,none,.call (.c (.fn 43 [])) [.t 3]⟩,⟨some 5,none,.bs 26 4 [.t 4]⟩,⟨some 6,none,.bld [.d true (.int .i64 0),.d true (.int .i64 0),.d true (.str ⟨#[]⟩),.nil] [(0,1,.c (.d true (.int .i64 6))),(3,1,.t 5)]⟩,⟨some 7,none,.call (.c (.fn 42 [])) [.t 6]⟩,⟨none,none,.st 4 (.t 2) (.t 7)⟩] [2]) (.ret))
theorem ok19 : FnOk Try.prog Try.f19 8 keep19 ac19 [.c 2 (some 4)]:=by
  refine ⟨?_,?_,?_,?_,?_⟩ <;> kernel_rfl

/-! impl.TermOk -/
def keep20 : Nat → List Nat
  | 0 => [1]
  | 1 => [2]
  | _ => []
def ac20 : AC:=.seq (.region [⟨some 1,none,.box (.t 0)⟩,⟨some 2,none,.mv (.c (.d true (.bool false)))⟩] [1]) (.seq (.region [⟨some 3,none,.ld (some 4) (.t 1)⟩,⟨some 4,none,.call (.c (.fn 24 [])) [.t 3]⟩,⟨some 5,none,.bin .leq (.t 4) (.c (.d true (.int .i64 200)))⟩,⟨some 6,none,.mv (.t 5)⟩,⟨some 7,some (6,true),.ld (some 4) (.t 1)⟩,⟨some 8,some (6,true),.call (.c (.fn 44 [])) [.t 7]⟩,⟨some 9,none,.pick (.t 6) (.t 8) (.c (.d true (.bool false)))⟩,⟨some 2,none,.mv (.t 9)⟩] [2]) (.ret))
theorem ok20 : FnOk Try.prog Try.f20 10 keep20 ac20 [.t 2]:=by
  refine ⟨?_,?_,?_,?_,?_⟩ <;> kernel_rfl

/-! spec.DrawAgree -/
/-! impl.Agree -/
/-! spec.Agree -/
def keep23 : Nat → List Nat
  | 0 => [2,3,4]
  | 1 => [2,3,4,22]
  | 2 => [4,5]
  | 3 => [4,6,7]
  | 4 => [4,6,7,31]
  | 5 => [4,6,7]
  | 6 => [4,8]
  | 7 => [4,5]
  | 1000003 => [1]
  | 1000007 => [1]
  | _ => []
def ac23 : AC:=.seq (.region [⟨some 2,none,.box (.t 0)⟩,⟨some 3,none,.box (.t 1)⟩,⟨some 4,none,.alloc [.d true (.int .i64 0),.d true (.int .i64 0),.d true (.str ⟨#[]⟩),.nil]⟩,⟨some 5,none,.mv (.c (.d true (.bool false)))⟩] [2,3,4]) (.seq (.seq (.region [⟨some 9,none,.fa 0 (.t 3)⟩,⟨some 10,none,.ld none (.t 9)⟩,⟨some 11,none,.bin .neq (.t 10) (.c (.d true (.int .i64 4)))⟩,⟨some 12,none,.mv (.t 11)⟩,⟨some 13,some (12,false),.fa 3 (.t 3)⟩,⟨some 14,some (12,false),.ld none (.t 13)⟩,⟨some 15,some (12,false),.len (.t 14)⟩,⟨some 16,some (12,false),.bin .neq (.t 15) (.c (.d true (.int .i64 1)))⟩,⟨some 17,none,.pick (.t 12) (.c (.d true (.bool true))) (.t 16)⟩,⟨some 18,none,.mv (.t 17)⟩,⟨some 19,some (18,false),.ld (some 4) (.t 3)⟩,⟨some 20,some (18,false),.call (.c (.fn 47 [])) [.t 19]⟩,⟨some 21,some (18,false),.not (.t 20)⟩,⟨some 22,none,.pick (.t 18) (.c (.d true (.bool true))) (.t 21)⟩] [2,3,4,22]) (.cond (.t 22) (.seq (.region [⟨some 23,none,.bld [.d true (.int .i64 0),.d true (.int .i64 0),.d true (.str ⟨#[]⟩),.nil] []⟩,⟨none,none,.st 4 (.t 4) (.t 23)⟩,⟨some 5,none,.mv (.c (.d true (.bool false)))⟩] [4,5]) (.ret)) (.skip))) (.seq (.tree (.take ⟨some 24,none,.ld (some 4) (.t 2)⟩ (.take ⟨some 25,none,.fa 3 (.t 3)⟩ (.take ⟨some 26,none,.ld none (.t 25)⟩ (.take ⟨some 27,none,.ia 4 (.t 26) (.c (.d true (.int .i64 0)))⟩ (.take ⟨some 28,none,.ld (some 4) (.t 27)⟩ (.br (.cons ⟨some 6,none,.alloc [.d true (.int .i64 0),.d true (.int .i64 0),.d true (.str ⟨#[]⟩),.nil]⟩ (.br (.cons ⟨some 7,none,.alloc [.d true (.int .i64 0),.d true (.int .i64 0),.d true (.str ⟨#[]⟩),.nil]⟩ (.br (.cons ⟨none,none,.st 4 (.t 6) (.t 24)⟩ (.br (.cons ⟨none,none,.st 4 (.t 7) (.t 28)⟩ (.done) (.nil))) (.nil))) (.nil))) (.cons ⟨some 7,none,.alloc [.d true (.int .i64 0),.d true (.int .i64 0),.d true (.str ⟨#[]⟩),.nil]⟩ (.br (.cons ⟨some 6,none,.alloc [.d true (.int .i64 0),.d true (.int .i64 0),.d true (.str ⟨#[]⟩),.nil]⟩ (.br (.cons ⟨none,none,.st 4 (.t 6) (.t 24)⟩ (.br (.cons ⟨none,none,.st 4 (.t 7) (.t 28)⟩ (.done) (.nil))) (.nil))) (.nil))) (.nil))))))))) [4,6,7]) (.seq (.seq (.region [⟨some 29,none,.ld (some 4) (.t 7)⟩,⟨some 30,none,.ld (some 4) (.t 6)⟩,⟨some 31,none,.call (.c (.fn 48 [])) [.t 29,.t 30]⟩] [4,6,7,31]) (.cond (.t 31) (.region [⟨some 32,none,.ld (some 4) (.t 7)⟩,⟨some 33,none,.ld (some 4) (.t 6)⟩,⟨none,none,.st 4 (.t 6) (.t 32)⟩,⟨none,none,.st 4 (.t 7) (.t 33)⟩] [4,6,7]) (.skip))) (.seq (.region [⟨some 34,none,.ld (some 4) (.t 6)⟩,⟨some 35,none,.ld (some 4) (.t 7)⟩,⟨some 36,none,.call (.c (.fn 41 [])) [.c (.d true (.int .i64 5)),.t 34,.t 35]⟩,⟨some 8,none,.alloc [.d true (.int .i64 0),.d true (.int .i64 0),.d true (.str ⟨#[]⟩),.nil]⟩,⟨none,none,.st 4 (.t 8) (.t 36)⟩] [4,8]) (.seq (.tree (.take ⟨some 37,none,.ld (some 4) (.t 8)⟩ (.take ⟨some 38,none,.fa 0 (.t 8)⟩ (.take ⟨some 39,none,.ld none (.t 38)⟩ (.take ⟨some 40,none,.bin .eql (.t 39) (.c (.d true (.int .i64 5)))⟩ (.br (.cons ⟨none,none,.st 4 (.t 4) (.t 37)⟩ (.take ⟨some 5,none,.mv (.t 40)⟩ (.done)) (.nil))))))) [4,5]) (.ret))))))
theorem ok23 : FnOk Try.prog Try.f23 41 keep23 ac23 [.c 4 (some 4),.t 5]:=by
  refine ⟨?_,?_,?_,?_,?_⟩ <;> kernel_rfl

/-! impl.TermSize -/
def keep24 : Nat → List Nat
  | 0 => [1]
  | 1 => [1,3]
  | 2 => [3,7,8,9]
  | 3 => [3,7,8,9,10]
  | 4 => [3,5,7,8,9]
  | 5 => [3,7,8,9]
  | 6 => [3,7,8,9]
  | 7 => [2]
  | _ => []
def ac24 : AC:=.seq (.region [⟨some 1,none,.box (.t 0)⟩,⟨some 2,none,.mv (.c (.d true (.int .i64 0)))⟩] [1]) (.seq (.region [⟨some 3,none,.mv (.c (.d true (.int .i64 1)))⟩] [1,3]) (.seq (.seq (.region [⟨some 6,none,.fa 3 (.t 1)⟩,⟨some 7,none,.ld none (.t 6)⟩,⟨some 8,none,.len (.t 7)⟩,⟨some 9,none,.mv (.c (.d true (.int .i64 0)))⟩] [3,7,8,9]) (.block 0 (.loop (.seq (.region [⟨some 10,none,.bin .lss (.t 9) (.t 8)⟩] [3,7,8,9,10]) (.seq (.cond (.t 10) (.skip) (.exit 0)) (.seq (.block 1 (.seq (.region [⟨some 11,none,.ia 4 (.t 7) (.t 9)⟩,⟨some 12,none,.ld (some 4) (.t 11)⟩,⟨some 5,none,.alloc [.d true (.int .i64 0),.d true (.int .i64 0),.d true (.str ⟨#[]⟩),.nil]⟩,⟨none,none,.st 4 (.t 5) (.t 12)⟩] [3,5,7,8,9]) (.region [⟨some 13,none,.mv (.t 3)⟩,⟨some 14,none,.ld (some 4) (.t 5)⟩,⟨some 15,none,.call (.c (.fn 24 [])) [.t 14]⟩,⟨some 16,none,.bin .add (.t 13) (.t 15)⟩,⟨some 3,none,.mv (.t 16)⟩] [3,7,8,9]))) (.region [⟨some 17,none,.bin .add (.t 9) (.c (.d true (.int .i64 1)))⟩,⟨some 9,none,.mv (.t 17)⟩] [3,7,8,9]))))))) (.seq (.region [⟨some 18,none,.mv (.t 3)⟩,⟨some 2,none,.mv (.t 18)⟩] [2]) (.ret))))
theorem ok24 : FnOk Try.prog Try.f24 19 keep24 ac24 [.t 2]:=by
  refine ⟨?_,?_,?_,?_,?_⟩ <;> kernel_rfl

/-! spec.DrawCan -/
/-! impl.Can -/
/-! spec.DrawParts -/
/-! impl.Parts -/
/-! spec.DrawMade -/
/-! spec.Can -/
/-! laws.sameTerms -/
/-! spec.Parts -/
/-! impl.Made -/
/-! spec.Made -/
/-! spec.l1DrawTwo -/
def keep35 : Nat → List Nat
  | 0 => [0,2,3]
  | 1 => [2,3,4]
  | 2 => [2,3,4,5]
  | 3 => [2,3,4,5,11]
  | 4 => [2,3]
  | 5 => [2,3]
  | 1000004 => [1]
  | 1000005 => [1]
  | _ => []
def ac35 : AC:=.seq (.region [⟨some 2,none,.alloc [.d true (.int .i64 0),.d true (.int .i64 0),.d true (.str ⟨#[]⟩),.nil]⟩,⟨some 3,none,.alloc [.d true (.int .i64 0),.d true (.int .i64 0),.d true (.str ⟨#[]⟩),.nil]⟩] [0,2,3]) (.seq (.region [⟨some 6,none,.mv (.t 0)⟩,⟨some 7,none,.call (.c (.fn 37 [])) [.t 6]⟩,⟨some 4,none,.mv (.t 7)⟩] [2,3,4]) (.seq (.region [⟨some 8,none,.mv (.t 4)⟩,⟨some 9,none,.call (.c (.fn 38 [])) [.t 8]⟩,⟨some 5,none,.alloc [.d true (.int .i64 0),.d true (.int .i64 0),.d true (.str ⟨#[]⟩),.nil]⟩,⟨none,none,.st 4 (.t 5) (.t 9)⟩] [2,3,4,5]) (.seq (.seq (.region [⟨some 10,none,.mv (.t 4)⟩,⟨some 11,none,.call (.c (.fn 45 [])) [.t 10,.c (.d true (.int .i64 3))]⟩] [2,3,4,5,11]) (.cond (.t 11) (.seq (.tree (.take ⟨some 12,none,.ld (some 4) (.t 5)⟩ (.take ⟨some 13,none,.ld (some 4) (.t 5)⟩ (.br (.cons ⟨some 14,none,.call (.c (.fn 43 [])) [.t 13]⟩ (.br (.cons ⟨none,none,.st 4 (.t 2) (.t 12)⟩ (.br (.cons ⟨none,none,.st 4 (.t 3) (.t 14)⟩ (.done) (.nil))) (.nil))) (.nil))))) [2,3]) (.ret)) (.skip))) (.seq (.tree (.take ⟨some 15,none,.ld (some 4) (.t 5)⟩ (.take ⟨some 16,none,.mv (.t 4)⟩ (.br (.cons ⟨some 17,none,.call (.c (.fn 38 [])) [.t 16]⟩ (.br (.cons ⟨none,none,.st 4 (.t 2) (.t 15)⟩ (.br (.cons ⟨none,none,.st 4 (.t 3) (.t 17)⟩ (.done) (.nil))) (.nil))) (.nil))))) [2,3]) (.ret)))))
theorem ok35 : FnOk Try.prog Try.f35 18 keep35 ac35 [.c 2 (some 4),.c 3 (some 4)]:=by
  refine ⟨?_,?_,?_,?_,?_⟩ <;> kernel_rfl

/-! spec.l1PickInt -/
def keep36 : Nat → List Nat
  | 0 => [0,1,1000000,1000001]
  | 1 => [4,1000000,1000001]
  | _ => []
def ac36 : AC:=.seq (.region [⟨some 4,none,.mv (.c (.d true (.int .i64 0)))⟩] [0,1,1000000,1000001]) (.seq (.region [⟨some 5,none,.mv (.t 1)⟩,⟨some 6,none,.mv (.t 0)⟩,⟨some 7,none,.mv (.t 1)⟩,⟨some 8,none,.len (.t 7)⟩,⟨some 9,none,.call (.c (.fn 56 [])) [.t 6,.t 8]⟩,⟨some 10,none,.ia 1 (.t 5) (.t 9)⟩,⟨some 11,none,.ld none (.t 10)⟩,⟨some 4,none,.mv (.t 11)⟩] [4,1000000,1000001]) (.ret))
theorem ok36 : FnOk Try.prog Try.f36 12 keep36 ac36 [.t 4]:=by
  refine ⟨?_,?_,?_,?_,?_⟩ <;> kernel_rfl

/-! spec.l1New -/
def keep37 : Nat → List Nat
  | 0 => [0]
  | 1 => [0,3]
  | 2 => [0,3,4]
  | 3 => [0,3,4,15]
  | 4 => [0,3,4]
  | 5 => [0,3,4]
  | 6 => [2]
  | _ => []
def ac37 : AC:=.seq (.region [⟨some 2,none,.mv (.c (.any))⟩] [0]) (.seq (.region [⟨some 5,none,.mv (.t 0)⟩,⟨some 6,none,.len (.t 5)⟩,⟨some 7,none,.bin .add (.c (.d true (.int .i64 22143))) (.t 6)⟩,⟨some 3,none,.mv (.t 7)⟩] [0,3]) (.seq (.seq (.region [⟨some 4,none,.mv (.c (.d true (.int .i64 0)))⟩] [0,3,4]) (.block 0 (.loop (.seq (.seq (.region [⟨some 8,none,.mv (.t 4)⟩,⟨some 9,none,.mv (.t 0)⟩,⟨some 10,none,.len (.t 9)⟩,⟨some 11,none,.bin .lss (.t 8) (.t 10)⟩,⟨some 12,none,.mv (.t 11)⟩,⟨some 13,some (12,true),.mv (.t 4)⟩,⟨some 14,some (12,true),.bin .lss (.t 13) (.c (.d true (.int .i64 4000)))⟩,⟨some 15,none,.pick (.t 12) (.t 14) (.c (.d true (.bool false)))⟩] [0,3,4,15]) (.cond (.t 15) (.skip) (.exit 0))) (.seq (.block 1 (.region [⟨some 18,none,.mv (.t 3)⟩,⟨some 19,none,.bin .mul (.t 18) (.c (.d true (.int .i64 131)))⟩,⟨some 20,none,.mv (.t 0)⟩,⟨some 21,none,.mv (.t 4)⟩,⟨some 22,none,.ia 1 (.t 20) (.t 21)⟩,⟨some 23,none,.ld none (.t 22)⟩,⟨some 24,none,.cvi .i64 (.t 23)⟩,⟨some 25,none,.bin .add (.t 19) (.t 24)⟩,⟨some 26,none,.bin .add (.t 25) (.c (.d true (.int .i64 7)))⟩,⟨some 27,none,.bin .and (.t 26) (.c (.d true (.int .i64 1073741823)))⟩,⟨some 3,none,.mv (.t 27)⟩] [0,3,4])) (.region [⟨some 16,none,.mv (.t 4)⟩,⟨some 17,none,.bin .add (.t 16) (.c (.d true (.int .i64 1)))⟩,⟨some 4,none,.mv (.t 17)⟩] [0,3,4])))))) (.seq (.region [⟨some 28,none,.mv (.t 0)⟩,⟨some 29,none,.mv (.t 3)⟩,⟨some 30,none,.bld [.nil,.d true (.int .i64 0),.d true (.int .i64 0)] [(0,1,.t 28),(2,1,.t 29)]⟩,⟨some 31,none,.box (.t 30)⟩,⟨some 2,none,.mv (.t 31)⟩] [2]) (.ret))))
theorem ok37 : FnOk Try.prog Try.f37 32 keep37 ac37 [.t 2]:=by
  refine ⟨?_,?_,?_,?_,?_⟩ <;> kernel_rfl

/-! spec.l1Draw -/
def keep38 : Nat → List Nat
  | 0 => [0,2,1000000,1000001]
  | 1 => [0,2,3,1000000,1000001]
  | 2 => [0,2,3,7,1000000,1000001]
  | 3 => [0,2,3,7,8,1000000,1000001]
  | 4 => [2,3,1000000,1000001]
  | 5 => [0,2,3,7,14,1000000,1000001]
  | 6 => [2,3,1000000,1000001]
  | 7 => [2,3,7,20,1000000,1000001]
  | 8 => [2,3,1000000,1000001]
  | 9 => [2,3,23,1000000,1000001]
  | 10 => [2,3,1000000,1000001]
  | 11 => [2,1000000,1000001]
  | _ => []
def ac38 : AC:=.seq (.region [⟨some 2,none,.alloc [.d true (.int .i64 0),.d true (.int .i64 0),.d true (.str ⟨#[]⟩),.nil]⟩] [0,2,1000000,1000001]) (.seq (.region [⟨some 4,none,.mv (.t 0)⟩,⟨some 5,none,.call (.c (.fn 57 [])) [.t 4,.c (.d true (.int .i64 3))]⟩,⟨some 3,none,.alloc [.d true (.int .i64 0),.d true (.int .i64 0),.d true (.str ⟨#[]⟩),.nil]⟩,⟨none,none,.st 4 (.t 3) (.t 5)⟩] [0,2,3,1000000,1000001]) (.seq (.seq (.region [⟨some 6,none,.mv (.t 0)⟩,⟨some 7,none,.call (.c (.fn 56 [])) [.t 6,.c (.d true (.int .i64 14))]⟩] [0,2,3,7,1000000,1000001]) (.block 0 (.seq (.region [⟨some 9,none,.bin .eql (.t 7) (.c (.d true (.int .i64 0)))⟩,⟨some 8,none,.mv (.t 9)⟩] [0,2,3,7,8,1000000,1000001]) (.cond (.t 8) (.region [⟨some 10,none,.mv (.t 0)⟩,⟨some 11,none,.call (.c (.fn 56 [])) [.t 10,.c (.d true (.int .i64 11))]⟩,⟨some 12,none,.bin .sub (.t 11) (.c (.d true (.int .i64 1)))⟩,⟨some 13,none,.fa 0 (.t 3)⟩,⟨none,none,.st 1 (.t 13) (.t 12)⟩] [2,3,1000000,1000001]) (.seq (.region [⟨some 15,none,.bin .eql (.t 7) (.c (.d true (.int .i64 1)))⟩,⟨some 14,none,.mv (.t 15)⟩] [0,2,3,7,14,1000000,1000001]) (.cond (.t 14) (.region [⟨some 16,none,.mv (.t 0)⟩,⟨some 17,none,.bs 3 1 [.c (.d true (.int .i64 (-1))),.c (.d true (.int .i64 1)),.c (.d true (.int .i64 1000000)),.c (.d true (.int .i64 1000001)),.c (.d true (.int .i64 (-9223372036854775808)))]⟩,⟨some 18,none,.call (.c (.fn 36 [])) [.t 16,.t 17]⟩,⟨some 19,none,.fa 1 (.t 3)⟩,⟨none,none,.st 1 (.t 19) (.t 18)⟩] [2,3,1000000,1000001]) (.seq (.region [⟨some 21,none,.bin .eql (.t 7) (.c (.d true (.int .i64 2)))⟩,⟨some 20,none,.mv (.t 21)⟩] [2,3,7,20,1000000,1000001]) (.cond (.t 20) (.region [⟨some 22,none,.fa 2 (.t 3)⟩,⟨none,none,.st 1 (.t 22) (.c (.d true (.str ⟨#[120]⟩)))⟩] [2,3,1000000,1000001]) (.seq (.region [⟨some 24,none,.bin .eql (.t 7) (.c (.d true (.int .i64 3)))⟩,⟨some 23,none,.mv (.t 24)⟩] [2,3,23,1000000,1000001]) (.cond (.t 23) (.region [⟨some 25,none,.fa 3 (.t 3)⟩,⟨some 26,none,.ld none (.t 25)⟩,⟨some 27,none,.bld [.d true (.int .i64 0),.d true (.int .i64 0),.d true (.str ⟨#[]⟩),.nil] [(0,1,.c (.d true (.int .i64 1)))]⟩,⟨some 28,none,.bs 26 4 [.t 27]⟩,⟨some 29,none,.app 26 4 56 (.t 26) (.t 28)⟩,⟨some 30,none,.fa 3 (.t 3)⟩,⟨none,none,.st 1 (.t 30) (.t 29)⟩] [2,3,1000000,1000001]) (.skip))))))))))) (.seq (.region [⟨some 31,none,.ld (some 4) (.t 3)⟩,⟨none,none,.st 4 (.t 2) (.t 31)⟩] [2,1000000,1000001]) (.ret))))
theorem ok38 : FnOk Try.prog Try.f38 32 keep38 ac38 [.c 2 (some 4)]:=by
  refine ⟨?_,?_,?_,?_,?_⟩ <;> kernel_rfl

/-! impl.right -/
def keep39 : Nat → List Nat
  | 0 => [1,2]
  | 1 => [1,2,5]
  | 2 => [2]
  | 3 => [2]
  | _ => []
def ac39 : AC:=.seq (.region [⟨some 1,none,.box (.t 0)⟩,⟨some 2,none,.alloc [.d true (.int .i64 0),.d true (.int .i64 0),.d true (.str ⟨#[]⟩),.nil]⟩] [1,2]) (.seq (.seq (.region [⟨some 3,none,.ld (some 4) (.t 1)⟩,⟨some 4,none,.call (.c (.fn 20 [])) [.t 3]⟩,⟨some 5,none,.not (.t 4)⟩] [1,2,5]) (.cond (.t 5) (.seq (.region [⟨some 6,none,.bld [.d true (.int .i64 0),.d true (.int .i64 0),.d true (.str ⟨#[]⟩),.nil] []⟩,⟨none,none,.st 4 (.t 2) (.t 6)⟩] [2]) (.ret)) (.skip))) (.seq (.region [⟨some 7,none,.ld (some 4) (.t 1)⟩,⟨some 8,none,.call (.c (.fn 58 [])) [.t 7]⟩,⟨none,none,.st 4 (.t 2) (.t 8)⟩] [2]) (.ret)))
theorem ok39 : FnOk Try.prog Try.f39 9 keep39 ac39 [.c 2 (some 4)]:=by
  refine ⟨?_,?_,?_,?_,?_⟩ <;> kernel_rfl

/-! slices.EqualFunc[[]impl.Term,[]impl.Term,impl.Term,impl.Term] -/
def keep40 : Nat → List Nat
  | 0 => [0,1,2]
  | 1 => [0,1,2,14]
  | 2 => [6]
  | 3 => [1,2,15,16,17]
  | 4 => [1,2,15,16,17,18]
  | 5 => [1,2,7,8,15,16,17]
  | 6 => [1,2,8,9,15,16,17]
  | 7 => [1,2,15,16,17,30]
  | 8 => [6]
  | 9 => [1,2,15,16,17]
  | 10 => [6]
  | _ => []
def ac40 : AC:=.seq (.region [⟨some 6,none,.mv (.c (.d true (.bool false)))⟩] [0,1,2]) (.seq (.seq (.region [⟨some 10,none,.mv (.t 0)⟩,⟨some 11,none,.len (.t 10)⟩,⟨some 12,none,.mv (.t 1)⟩,⟨some 13,none,.len (.t 12)⟩,⟨some 14,none,.bin .neq (.t 11) (.t 13)⟩] [0,1,2,14]) (.cond (.t 14) (.seq (.region [⟨some 6,none,.mv (.c (.d true (.bool false)))⟩] [6]) (.ret)) (.skip))) (.seq (.seq (.region [⟨some 15,none,.mv (.t 0)⟩,⟨some 16,none,.len (.t 15)⟩,⟨some 17,none,.mv (.c (.d true (.int .i64 0)))⟩] [1,2,15,16,17]) (.block 0 (.loop (.seq (.region [⟨some 18,none,.bin .lss (.t 17) (.t 16)⟩] [1,2,15,16,17,18]) (.seq (.cond (.t 18) (.skip) (.exit 0)) (.seq (.block 1 (.seq (.region [⟨some 19,none,.mv (.t 17)⟩,⟨some 20,none,.ia 4 (.t 15) (.t 17)⟩,⟨some 21,none,.ld (some 4) (.t 20)⟩,⟨some 8,none,.alloc [.d true (.int .i64 0),.d true (.int .i64 0),.d true (.str ⟨#[]⟩),.nil]⟩,⟨some 7,none,.mv (.t 19)⟩,⟨none,none,.st 4 (.t 8) (.t 21)⟩] [1,2,7,8,15,16,17]) (.seq (.region [⟨some 22,none,.mv (.t 1)⟩,⟨some 23,none,.mv (.t 7)⟩,⟨some 24,none,.ia 4 (.t 22) (.t 23)⟩,⟨some 25,none,.ld (some 4) (.t 24)⟩,⟨some 9,none,.alloc [.d true (.int .i64 0),.d true (.int .i64 0),.d true (.str ⟨#[]⟩),.nil]⟩,⟨none,none,.st 4 (.t 9) (.t 25)⟩] [1,2,8,9,15,16,17]) (.seq (.region [⟨some 26,none,.mv (.t 2)⟩,⟨some 27,none,.ld (some 4) (.t 8)⟩,⟨some 28,none,.ld (some 4) (.t 9)⟩,⟨some 29,none,.call (.t 26) [.t 27,.t 28]⟩,⟨some 30,none,.not (.t 29)⟩] [1,2,15,16,17,30]) (.cond (.t 30) (.seq (.region [⟨some 6,none,.mv (.c (.d true (.bool false)))⟩] [6]) (.ret)) (.skip)))))) (.region [⟨some 31,none,.bin .add (.t 17) (.c (.d true (.int .i64 1)))⟩,⟨some 17,none,.mv (.t 31)⟩] [1,2,15,16,17]))))))) (.seq (.region [⟨some 6,none,.mv (.c (.d true (.bool true)))⟩] [6]) (.ret))))
theorem ok40 : FnOk Try.prog Try.f40 32 keep40 ac40 [.t 6]:=by
  refine ⟨?_,?_,?_,?_,?_⟩ <;> kernel_rfl

/-! spec.l3Two -/
def keep41 : Nat → List Nat
  | 0 => [0,4,5,6]
  | 1 => [6]
  | 1000001 => [1]
  | _ => []
def ac41 : AC:=.seq (.region [⟨some 4,none,.box (.t 1)⟩,⟨some 5,none,.box (.t 2)⟩,⟨some 6,none,.alloc [.d true (.int .i64 0),.d true (.int .i64 0),.d true (.str ⟨#[]⟩),.nil]⟩] [0,4,5,6]) (.seq (.tree (.take ⟨some 7,none,.mv (.t 0)⟩ (.take ⟨some 8,none,.ld (some 4) (.t 4)⟩ (.take ⟨some 10,none,.ld (some 4) (.t 5)⟩ (.br (.cons ⟨some 9,none,.call (.c (.fn 43 [])) [.t 8]⟩ (.br (.cons ⟨some 11,none,.call (.c (.fn 43 [])) [.t 10]⟩ (.br (.cons ⟨some 12,none,.bs 26 4 [.t 9,.t 11]⟩ (.take ⟨some 13,none,.bld [.d true (.int .i64 0),.d true (.int .i64 0),.d true (.str ⟨#[]⟩),.nil] [(0,1,.t 7),(3,1,.t 12)]⟩ (.br (.cons ⟨some 14,none,.call (.c (.fn 42 [])) [.t 13]⟩ (.br (.cons ⟨none,none,.st 4 (.t 6) (.t 14)⟩ (.done) (.nil))) (.nil)))) (.nil))) (.nil))) (.nil)))))) [6]) (.ret))
theorem ok41 : FnOk Try.prog Try.f41 15 keep41 ac41 [.c 6 (some 4)]:=by
  refine ⟨?_,?_,?_,?_,?_⟩ <;> kernel_rfl

/-! spec.l3Ok -/
def keep42 : Nat → List Nat
  | 0 => [1,2]
  | 1 => [1,2,5]
  | 2 => [2]
  | 3 => [2]
  | _ => []
def ac42 : AC:=.seq (.region [⟨some 1,none,.box (.t 0)⟩,⟨some 2,none,.alloc [.d true (.int .i64 0),.d true (.int .i64 0),.d true (.str ⟨#[]⟩),.nil]⟩] [1,2]) (.seq (.seq (.region [⟨some 3,none,.ld (some 4) (.t 1)⟩,⟨some 4,none,.call (.c (.fn 47 [])) [.t 3]⟩,⟨some 5,none,.not (.t 4)⟩] [1,2,5]) (.cond (.t 5) (.seq (.region [⟨some 6,none,.bld [.d true (.int .i64 0),.d true (.int .i64 0),.d true (.str ⟨#[]⟩),.nil] []⟩,⟨none,none,.st 4 (.t 2) (.t 6)⟩] [2]) (.ret)) (.skip))) (.seq (.region [⟨some 7,none,.ld (some 4) (.t 1)⟩,⟨none,none,.st 4 (.t 2) (.t 7)⟩] [2]) (.ret)))
theorem ok42 : FnOk Try.prog Try.f42 8 keep42 ac42 [.c 2 (some 4)]:=by
  refine ⟨?_,?_,?_,?_,?_⟩ <;> kernel_rfl

/-! spec.l1Copy -/
def keep43 : Nat → List Nat
  | 0 => [1,2]
  | 1 => [1,2,3]
  | 2 => [1,2,3,4]
  | 3 => [1,2,3,4,16]
  | 4 => [1,2,3,4]
  | 5 => [1,2,3,4]
  | 6 => [2]
  | 1000005 => [1]
  | _ => []
def ac43 : AC:=.seq (.region [⟨some 1,none,.box (.t 0)⟩,⟨some 2,none,.alloc [.d true (.int .i64 0),.d true (.int .i64 0),.d true (.str ⟨#[]⟩),.nil]⟩] [1,2]) (.seq (.region [⟨some 5,none,.fa 0 (.t 1)⟩,⟨some 6,none,.ld none (.t 5)⟩,⟨some 7,none,.fa 1 (.t 1)⟩,⟨some 8,none,.ld none (.t 7)⟩,⟨some 9,none,.fa 2 (.t 1)⟩,⟨some 10,none,.ld none (.t 9)⟩,⟨some 11,none,.bld [.d true (.int .i64 0),.d true (.int .i64 0),.d true (.str ⟨#[]⟩),.nil] [(0,1,.t 6),(1,1,.t 8),(2,1,.t 10)]⟩,⟨some 3,none,.alloc [.d true (.int .i64 0),.d true (.int .i64 0),.d true (.str ⟨#[]⟩),.nil]⟩,⟨none,none,.st 4 (.t 3) (.t 11)⟩] [1,2,3]) (.seq (.seq (.region [⟨some 4,none,.mv (.c (.d true (.int .i64 0)))⟩] [1,2,3,4]) (.block 0 (.loop (.seq (.seq (.region [⟨some 12,none,.mv (.t 4)⟩,⟨some 13,none,.fa 3 (.t 1)⟩,⟨some 14,none,.ld none (.t 13)⟩,⟨some 15,none,.len (.t 14)⟩,⟨some 16,none,.bin .lss (.t 12) (.t 15)⟩] [1,2,3,4,16]) (.cond (.t 16) (.skip) (.exit 0))) (.seq (.block 1 (.tree (.take ⟨some 19,none,.fa 3 (.t 3)⟩ (.take ⟨some 21,none,.fa 3 (.t 1)⟩ (.take ⟨some 22,none,.ld none (.t 21)⟩ (.take ⟨some 23,none,.mv (.t 4)⟩ (.take ⟨some 24,none,.ia 4 (.t 22) (.t 23)⟩ (.take ⟨some 25,none,.ld (some 4) (.t 24)⟩ (.br (.cons ⟨some 20,none,.ld none (.t 19)⟩ (.br (.cons ⟨some 26,none,.call (.c (.fn 43 [])) [.t 25]⟩ (.br (.cons ⟨some 27,none,.bs 26 4 [.t 26]⟩ (.br (.cons ⟨some 28,none,.app 26 4 56 (.t 20) (.t 27)⟩ (.take ⟨some 29,none,.fa 3 (.t 3)⟩ (.br (.cons ⟨none,none,.st 1 (.t 29) (.t 28)⟩ (.done) (.nil)))) (.nil))) (.nil))) (.nil))) (.cons ⟨some 26,none,.call (.c (.fn 43 [])) [.t 25]⟩ (.br (.cons ⟨some 20,none,.ld none (.t 19)⟩ (.br (.cons ⟨some 27,none,.bs 26 4 [.t 26]⟩ (.br (.cons ⟨some 28,none,.app 26 4 56 (.t 20) (.t 27)⟩ (.take ⟨some 29,none,.fa 3 (.t 3)⟩ (.br (.cons ⟨none,none,.st 1 (.t 29) (.t 28)⟩ (.done) (.nil)))) (.nil))) (.nil))) (.cons ⟨some 27,none,.bs 26 4 [.t 26]⟩ (.br (.cons ⟨some 20,none,.ld none (.t 19)⟩ (.br (.cons ⟨some 28,none,.app 26 4 56 (.t 20) (.t 27)⟩ (.take ⟨some 29,none,.fa 3 (.t 3)⟩ (.br (.cons ⟨none,none,.st 1 (.t 29) (.t 28)⟩ (.done) (.nil)))) (.nil))) (.nil))) (.nil)))) (.nil)))))))))) [1,2,3,4])) (.region [⟨some 17,none,.mv (.t 4)⟩,⟨some 18,none,.bin .add (.t 17) (.c (.d true (.int .i64 1)))⟩,⟨some 4,none,.mv (.t 18)⟩] [1,2,3,4])))))) (.seq (.region [⟨some 30,none,.ld (some 4) (.t 3)⟩,⟨none,none,.st 4 (.t 2) (.t 30)⟩] [2]) (.ret))))
theorem ok43 : FnOk Try.prog Try.f43 31 keep43 ac43 [.c 2 (some 4)]:=by
  refine ⟨?_,?_,?_,?_,?_⟩ <;> kernel_rfl

/-! impl.formOk -/
def keep44 : Nat → List Nat
  | 0 => [1]
  | 1 => [1,14]
  | 2 => [2]
  | 3 => [1,16]
  | 4 => [1,16,17]
  | 5 => [2]
  | 6 => [1,16,27]
  | 7 => [2]
  | 8 => [1,38]
  | 9 => [2]
  | 10 => [2]
  | _ => []
def ac44 : AC:=.seq (.region [⟨some 1,none,.box (.t 0)⟩,⟨some 2,none,.mv (.c (.d true (.bool false)))⟩] [1]) (.seq (.seq (.draw [⟨some 3,none,.fa 3 (.t 1)⟩,⟨some 4,none,.ld none (.t 3)⟩,⟨some 5,none,.len (.t 4)⟩,⟨some 6,none,.fa 0 (.t 1)⟩,⟨some 7,none,.ld none (.t 6)⟩,⟨some 8,none,.call (.c (.fn 59 [])) [.t 7]⟩,⟨some 9,none,.bin .neq (.t 5) (.t 8)⟩,⟨some 10,none,.mv (.t 9)⟩,⟨some 11,some (10,false),.fa 3 (.t 1)⟩,⟨some 12,some (10,false),.ld none (.t 11)⟩,⟨some 13,some (10,false),.call (.c (.fn 60 [])) [.t 12,.c (.fn 61 [])]⟩,⟨some 14,none,.pick (.t 10) (.c (.d true (.bool true))) (.t 13)⟩] [1,14]) (.cond (.t 14) (.seq (.region [⟨some 2,none,.mv (.c (.d true (.bool false)))⟩] [2]) (.ret)) (.skip))) (.seq (.seq (.region [⟨some 15,none,.fa 0 (.t 1)⟩,⟨some 16,none,.ld none (.t 15)⟩] [1,16]) (.block 0 (.seq (.region [⟨some 18,none,.bin .eql (.t 16) (.c (.d true (.int .i64 1)))⟩,⟨some 17,none,.mv (.t 18)⟩] [1,16,17]) (.cond (.t 17) (.seq (.region [⟨some 19,none,.fa 1 (.t 1)⟩,⟨some 20,none,.ld none (.t 19)⟩,⟨some 21,none,.call (.c (.fn 62 [])) [.t 20,.c (.d true (.int .i64 0)),.c (.d true (.int .i64 1000000))]⟩,⟨some 22,none,.mv (.t 21)⟩,⟨some 23,some (22,true),.fa 2 (.t 1)⟩,⟨some 24,some (22,true),.ld none (.t 23)⟩,⟨some 25,some (22,true),.bin .eql (.t 24) (.c (.d true (.str ⟨#[]⟩)))⟩,⟨some 26,none,.pick (.t 22) (.t 25) (.c (.d true (.bool false)))⟩,⟨some 2,none,.mv (.t 26)⟩] [2]) (.ret)) (.seq (.region [⟨some 28,none,.bin .eql (.t 16) (.c (.d true (.int .i64 2)))⟩,⟨some 27,none,.mv (.t 28)⟩] [1,16,27]) (.cond (.t 27) (.seq (.region [⟨some 29,none,.fa 1 (.t 1)⟩,⟨some 30,none,.ld none (.t 29)⟩,⟨some 31,none,.bin .eql (.t 30) (.c (.d true (.int .i64 0)))⟩,⟨some 32,none,.mv (.t 31)⟩,⟨some 33,some (32,true),.fa 2 (.t 1)⟩,⟨some 34,some (32,true),.ld none (.t 33)⟩,⟨some 35,some (32,true),.slen (.t 34)⟩,⟨some 36,some (32,true),.bin .leq (.t 35) (.c (.d true (.int .i64 300)))⟩,⟨some 37,none,.pick (.t 32) (.t 36) (.c (.d true (.bool false)))⟩,⟨some 2,none,.mv (.t 37)⟩] [2]) (.ret)) (.seq (.region [⟨some 39,none,.bin .eql (.t 16) (.c (.d true (.int .i64 5)))⟩,⟨some 38,none,.mv (.t 39)⟩] [1,38]) (.cond (.t 38) (.seq (.draw [⟨some 40,none,.fa 1 (.t 1)⟩,⟨some 41,none,.ld none (.t 40)⟩,⟨some 42,none,.bin .eql (.t 41) (.c (.d true (.int .i64 0)))⟩,⟨some 43,none,.mv (.t 42)⟩,⟨some 44,some (43,true),.fa 2 (.t 1)⟩,⟨some 45,some (43,true),.ld none (.t 44)⟩,⟨some 46,some (43,true),.bin .eql (.t 45) (.c (.d true (.str ⟨#[]⟩)))⟩,⟨some 47,none,.pick (.t 43) (.t 46) (.c (.d true (.bool false)))⟩,⟨some 48,none,.mv (.t 47)⟩,⟨some 49,some (48,true),.fa 3 (.t 1)⟩,⟨some 50,some (48,true),.ld none (.t 49)⟩,⟨some 51,some (48,true),.ia 4 (.t 50) (.c (.d true (.int .i64 1)))⟩,⟨some 52,some (48,true),.ld (some 4) (.t 51)⟩,⟨some 53,some (48,true),.fa 3 (.t 1)⟩,⟨some 54,some (48,true),.ld none (.t 53)⟩,⟨some 55,some (48,true),.ia 4 (.t 54) (.c (.d true (.int .i64 0)))⟩,⟨some 56,some (48,true),.ld (some 4) (.t 55)⟩,⟨some 57,some (48,true),.call (.c (.fn 46 [])) [.t 52,.t 56]⟩,⟨some 58,some (48,true),.not (.t 57)⟩,⟨some 59,none,.pick (.t 48) (.t 58) (.c (.d true (.bool false)))⟩,⟨some 2,none,.mv (.t 59)⟩] [2]) (.ret)) (.skip))))))))) (.seq (.region [⟨some 60,none,.fa 1 (.t 1)⟩,⟨some 61,none,.ld none (.t 60)⟩,⟨some 62,none,.bin .eql (.t 61) (.c (.d true (.int .i64 0)))⟩,⟨some 63,none,.mv (.t 62)⟩,⟨some 64,some (63,true),.fa 2 (.t 1)⟩,⟨some 65,some (63,true),.ld none (.t 64)⟩,⟨some 66,some (63,true),.bin .eql (.t 65) (.c (.d true (.str ⟨#[]⟩)))⟩,⟨some 67,none,.pick (.t 63) (.t 66) (.c (.d true (.bool false)))⟩,⟨some 2,none,.mv (.t 67)⟩] [2]) (.ret))))
theorem ok44 : FnOk Try.prog Try.f44 68 keep44 ac44 [.t 2]:=by
  refine ⟨?_,?_,?_,?_,?_⟩ <;> kernel_rfl

/-! spec.l1Once -/
def keep45 : Nat → List Nat
  | 0 => [0,1,1000000,1000001]
  | 1 => [4,1000000,1000001]
  | _ => []
def ac45 : AC:=.seq (.region [⟨some 4,none,.mv (.c (.d true (.bool false)))⟩] [0,1,1000000,1000001]) (.seq (.region [⟨some 5,none,.mv (.t 0)⟩,⟨some 6,none,.mv (.t 1)⟩,⟨some 7,none,.call (.c (.fn 56 [])) [.t 5,.t 6]⟩,⟨some 8,none,.bin .eql (.t 7) (.c (.d true (.int .i64 0)))⟩,⟨some 4,none,.mv (.t 8)⟩] [4,1000000,1000001]) (.ret))
theorem ok45 : FnOk Try.prog Try.f45 9 keep45 ac45 [.t 4]:=by
  refine ⟨?_,?_,?_,?_,?_⟩ <;> kernel_rfl

/-! impl.Before -/
def keep46 : Nat → List Nat
  | 0 => [2,3]
  | 1 => [2,3,7]
  | 2 => [4]
  | 3 => [2,3,18]
  | 4 => [4]
  | 5 => [2,3,29]
  | 6 => [4]
  | 7 => [2,3,40]
  | 8 => [4]
  | 9 => [3,56,57,58]
  | 10 => [3,56,57,58,59]
  | 11 => [3,5,6,56,57,58]
  | 12 => [3,5,6,56,57,58,70]
  | 13 => [4]
  | 14 => [3,56,57,58]
  | 15 => [4]
  | _ => []
def ac46 : AC:=.seq (.region [⟨some 2,none,.box (.t 0)⟩,⟨some 3,none,.box (.t 1)⟩,⟨some 4,none,.mv (.c (.d true (.bool false)))⟩] [2,3]) (.seq (.block 0 (.seq (.region [⟨some 8,none,.fa 0 (.t 2)⟩,⟨some 9,none,.ld none (.t 8)⟩,⟨some 10,none,.fa 0 (.t 3)⟩,⟨some 11,none,.ld none (.t 10)⟩,⟨some 12,none,.bin .neq (.t 9) (.t 11)⟩,⟨some 7,none,.mv (.t 12)⟩] [2,3,7]) (.cond (.t 7) (.seq (.region [⟨some 13,none,.fa 0 (.t 2)⟩,⟨some 14,none,.ld none (.t 13)⟩,⟨some 15,none,.fa 0 (.t 3)⟩,⟨some 16,none,.ld none (.t 15)⟩,⟨some 17,none,.bin .lss (.t 14) (.t 16)⟩,⟨some 4,none,.mv (.t 17)⟩] [4]) (.ret)) (.seq (.region [⟨some 19,none,.fa 1 (.t 2)⟩,⟨some 20,none,.ld none (.t 19)⟩,⟨some 21,none,.fa 1 (.t 3)⟩,⟨some 22,none,.ld none (.t 21)⟩,⟨some 23,none,.bin .neq (.t 20) (.t 22)⟩,⟨some 18,none,.mv (.t 23)⟩] [2,3,18]) (.cond (.t 18) (.seq (.region [⟨some 24,none,.fa 1 (.t 2)⟩,⟨some 25,none,.ld none (.t 24)⟩,⟨some 26,none,.fa 1 (.t 3)⟩,⟨some 27,none,.ld none (.t 26)⟩,⟨some 28,none,.bin .lss (.t 25) (.t 27)⟩,⟨some 4,none,.mv (.t 28)⟩] [4]) (.ret)) (.seq (.region [⟨some 30,none,.fa 2 (.t 2)⟩,⟨some 31,none,.ld none (.t 30)⟩,⟨some 32,none,.fa 2 (.t 3)⟩,⟨some 33,none,.ld none (.t 32)⟩,⟨some 34,none,.bin .neq (.t 31) (.t 33)⟩,⟨some 29,none,.mv (.t 34)⟩] [2,3,29]) (.cond (.t 29) (.seq (.region [⟨some 35,none,.fa 2 (.t 2)⟩,⟨some 36,none,.ld none (.t 35)⟩,⟨some 37,none,.fa 2 (.t 3)⟩,⟨some 38,none,.ld none (.t 37)⟩,⟨some 39,none,.bin .lss (.t 36) (.t 38)⟩,⟨some 4,none,.mv (.t 39)⟩] [4]) (.ret)) (.seq (.region [⟨some 41,none,.fa 3 (.t 2)⟩,⟨some 42,none,.ld none (.t 41)⟩,⟨some 43,none,.len (.t 42)⟩,⟨some 44,none,.fa 3 (.t 3)⟩,⟨some 45,none,.ld none (.t 44)⟩,⟨some 46,none,.len (.t 45)⟩,⟨some 47,none,.bin .neq (.t 43) (.t 46)⟩,⟨some 40,none,.mv (.t 47)⟩] [2,3,40]) (.cond (.t 40) (.seq (.region [⟨some 48,none,.fa 3 (.t 2)⟩,⟨some 49,none,.ld none (.t 48)⟩,⟨some 50,none,.len (.t 49)⟩,⟨some 51,none,.fa 3 (.t 3)⟩,⟨some 52,none,.ld none (.t 51)⟩,⟨some 53,none,.len (.t 52)⟩,⟨some 54,none,.bin .lss (.t 50) (.t 53)⟩,⟨some 4,none,.mv (.t 54)⟩] [4]) (.ret)) (.skip)))))))))) (.seq (.seq (.region [⟨some 55,none,.fa 3 (.t 2)⟩,⟨some 56,none,.ld none (.t 55)⟩,⟨some 57,none,.len (.t 56)⟩,⟨some 58,none,.mv (.c (.d true (.int .i64 0)))⟩] [3,56,57,58]) (.block 1 (.loop (.seq (.region [⟨some 59,none,.bin .lss (.t 58) (.t 57)⟩] [3,56,57,58,59]) (.seq (.cond (.t 59) (.skip) (.exit 1)) (.seq (.block 2 (.seq (.region [⟨some 60,none,.mv (.t 58)⟩,⟨some 61,none,.ia 4 (.t 56) (.t 58)⟩,⟨some 62,none,.ld (some 4) (.t 61)⟩,⟨some 6,none,.alloc [.d true (.int .i64 0),.d true (.int .i64 0),.d true (.str ⟨#[]⟩),.nil]⟩,⟨some 5,none,.mv (.t 60)⟩,⟨none,none,.st 4 (.t 6) (.t 62)⟩] [3,5,6,56,57,58]) (.seq (.draw [⟨some 63,none,.ld (some 4) (.t 6)⟩,⟨some 64,none,.fa 3 (.t 3)⟩,⟨some 65,none,.ld none (.t 64)⟩,⟨some 66,none,.mv (.t 5)⟩,⟨some 67,none,.ia 4 (.t 65) (.t 66)⟩,⟨some 68,none,.ld (some 4) (.t 67)⟩,⟨some 69,none,.call (.c (.fn 15 [])) [.t 63,.t 68]⟩,⟨some 70,none,.not (.t 69)⟩] [3,5,6,56,57,58,70]) (.cond (.t 70) (.seq (.draw [⟨some 71,none,.ld (some 4) (.t 6)⟩,⟨some 72,none,.fa 3 (.t 3)⟩,⟨some 73,none,.ld none (.t 72)⟩,⟨some 74,none,.mv (.t 5)⟩,⟨some 75,none,.ia 4 (.t 73) (.t 74)⟩,⟨some 76,none,.ld (some 4) (.t 75)⟩,⟨some 77,none,.call (.c (.fn 46 [])) [.t 71,.t 76]⟩,⟨some 4,none,.mv (.t 77)⟩] [4]) (.ret)) (.skip))))) (.region [⟨some 78,none,.bin .add (.t 58) (.c (.d true (.int .i64 1)))⟩,⟨some 58,none,.mv (.t 78)⟩] [3,56,57,58]))))))) (.seq (.region [⟨some 4,none,.mv (.c (.d true (.bool false)))⟩] [4]) (.ret))))
theorem ok46 : FnOk Try.prog Try.f46 79 keep46 ac46 [.t 4]:=by
  refine ⟨?_,?_,?_,?_,?_⟩ <;> kernel_rfl

/-! spec.TermOk -/
def keep47 : Nat → List Nat
  | 0 => [1]
  | 1 => [2]
  | _ => []
def ac47 : AC:=.seq (.region [⟨some 1,none,.box (.t 0)⟩,⟨some 2,none,.mv (.c (.d true (.bool false)))⟩] [1]) (.seq (.region [⟨some 3,none,.ld (some 4) (.t 1)⟩,⟨some 4,none,.call (.c (.fn 63 [])) [.t 3]⟩,⟨some 5,none,.bin .leq (.t 4) (.c (.d true (.int .i64 200)))⟩,⟨some 6,none,.mv (.t 5)⟩,⟨some 7,some (6,true),.ld (some 4) (.t 1)⟩,⟨some 8,some (6,true),.call (.c (.fn 64 [])) [.t 7]⟩,⟨some 9,none,.pick (.t 6) (.t 8) (.c (.d true (.bool false)))⟩,⟨some 2,none,.mv (.t 9)⟩] [2]) (.ret))
theorem ok47 : FnOk Try.prog Try.f47 10 keep47 ac47 [.t 2]:=by
  refine ⟨?_,?_,?_,?_,?_⟩ <;> kernel_rfl

/-! spec.Before -/
def keep48 : Nat → List Nat
  | 0 => [2,3]
  | 1 => [2,3,6]
  | 2 => [4]
  | 3 => [2,3,17]
  | 4 => [4]
  | 5 => [2,3,28]
  | 6 => [4]
  | 7 => [2,3,39]
  | 8 => [4]
  | 9 => [2,3,5]
  | 10 => [2,3,5,58]
  | 11 => [2,3,5]
  | 12 => [2,3,5,72]
  | 13 => [4]
  | 14 => [4]
  | _ => []
def ac48 : AC:=.seq (.region [⟨some 2,none,.box (.t 0)⟩,⟨some 3,none,.box (.t 1)⟩,⟨some 4,none,.mv (.c (.d true (.bool false)))⟩] [2,3]) (.seq (.block 0 (.seq (.region [⟨some 7,none,.fa 0 (.t 2)⟩,⟨some 8,none,.ld none (.t 7)⟩,⟨some 9,none,.fa 0 (.t 3)⟩,⟨some 10,none,.ld none (.t 9)⟩,⟨some 11,none,.bin .neq (.t 8) (.t 10)⟩,⟨some 6,none,.mv (.t 11)⟩] [2,3,6]) (.cond (.t 6) (.seq (.region [⟨some 12,none,.fa 0 (.t 2)⟩,⟨some 13,none,.ld none (.t 12)⟩,⟨some 14,none,.fa 0 (.t 3)⟩,⟨some 15,none,.ld none (.t 14)⟩,⟨some 16,none,.bin .lss (.t 13) (.t 15)⟩,⟨some 4,none,.mv (.t 16)⟩] [4]) (.ret)) (.seq (.region [⟨some 18,none,.fa 1 (.t 2)⟩,⟨some 19,none,.ld none (.t 18)⟩,⟨some 20,none,.fa 1 (.t 3)⟩,⟨some 21,none,.ld none (.t 20)⟩,⟨some 22,none,.bin .neq (.t 19) (.t 21)⟩,⟨some 17,none,.mv (.t 22)⟩] [2,3,17]) (.cond (.t 17) (.seq (.region [⟨some 23,none,.fa 1 (.t 2)⟩,⟨some 24,none,.ld none (.t 23)⟩,⟨some 25,none,.fa 1 (.t 3)⟩,⟨some 26,none,.ld none (.t 25)⟩,⟨some 27,none,.bin .lss (.t 24) (.t 26)⟩,⟨some 4,none,.mv (.t 27)⟩] [4]) (.ret)) (.seq (.region [⟨some 29,none,.fa 2 (.t 2)⟩,⟨some 30,none,.ld none (.t 29)⟩,⟨some 31,none,.fa 2 (.t 3)⟩,⟨some 32,none,.ld none (.t 31)⟩,⟨some 33,none,.bin .neq (.t 30) (.t 32)⟩,⟨some 28,none,.mv (.t 33)⟩] [2,3,28]) (.cond (.t 28) (.seq (.region [⟨some 34,none,.fa 2 (.t 2)⟩,⟨some 35,none,.ld none (.t 34)⟩,⟨some 36,none,.fa 2 (.t 3)⟩,⟨some 37,none,.ld none (.t 36)⟩,⟨some 38,none,.bin .lss (.t 35) (.t 37)⟩,⟨some 4,none,.mv (.t 38)⟩] [4]) (.ret)) (.seq (.region [⟨some 40,none,.fa 3 (.t 2)⟩,⟨some 41,none,.ld none (.t 40)⟩,⟨some 42,none,.len (.t 41)⟩,⟨some 43,none,.fa 3 (.t 3)⟩,⟨some 44,none,.ld none (.t 43)⟩,⟨some 45,none,.len (.t 44)⟩,⟨some 46,none,.bin .neq (.t 42) (.t 45)⟩,⟨some 39,none,.mv (.t 46)⟩] [2,3,39]) (.cond (.t 39) (.seq (.region [⟨some 47,none,.fa 3 (.t 2)⟩,⟨some 48,none,.ld none (.t 47)⟩,⟨some 49,none,.len (.t 48)⟩,⟨some 50,none,.fa 3 (.t 3)⟩,⟨some 51,none,.ld none (.t 50)⟩,⟨some 52,none,.len (.t 51)⟩,⟨some 53,none,.bin .lss (.t 49) (.t 52)⟩,⟨some 4,none,.mv (.t 53)⟩] [4]) (.ret)) (.skip)))))))))) (.seq (.seq (.region [⟨some 5,none,.mv (.c (.d true (.int .i64 0)))⟩] [2,3,5]) (.block 1 (.loop (.seq (.seq (.region [⟨some 54,none,.mv (.t 5)⟩,⟨some 55,none,.fa 3 (.t 2)⟩,⟨some 56,none,.ld none (.t 55)⟩,⟨some 57,none,.len (.t 56)⟩,⟨some 58,none,.bin .lss (.t 54) (.t 57)⟩] [2,3,5,58]) (.cond (.t 58) (.skip) (.exit 1))) (.seq (.block 2 (.seq (.draw [⟨some 61,none,.fa 3 (.t 2)⟩,⟨some 62,none,.ld none (.t 61)⟩,⟨some 63,none,.mv (.t 5)⟩,⟨some 64,none,.ia 4 (.t 62) (.t 63)⟩,⟨some 65,none,.ld (some 4) (.t 64)⟩,⟨some 66,none,.fa 3 (.t 3)⟩,⟨some 67,none,.ld none (.t 66)⟩,⟨some 68,none,.mv (.t 5)⟩,⟨some 69,none,.ia 4 (.t 67) (.t 68)⟩,⟨some 70,none,.ld (some 4) (.t 69)⟩,⟨some 71,none,.call (.c (.fn 53 [])) [.t 65,.t 70]⟩,⟨some 72,none,.not (.t 71)⟩] [2,3,5,72]) (.cond (.t 72) (.seq (.draw [⟨some 73,none,.fa 3 (.t 2)⟩,⟨some 74,none,.ld none (.t 73)⟩,⟨some 75,none,.mv (.t 5)⟩,⟨some 76,none,.ia 4 (.t 74) (.t 75)⟩,⟨some 77,none,.ld (some 4) (.t 76)⟩,⟨some 78,none,.fa 3 (.t 3)⟩,⟨some 79,none,.ld none (.t 78)⟩,⟨some 80,none,.mv (.t 5)⟩,⟨some 81,none,.ia 4 (.t 79) (.t 80)⟩,⟨some 82,none,.ld (some 4) (.t 81)⟩,⟨some 83,none,.call (.c (.fn 48 [])) [.t 77,.t 82]⟩,⟨some 4,none,.mv (.t 83)⟩] [4]) (.ret)) (.skip)))) (.region [⟨some 59,none,.mv (.t 5)⟩,⟨some 60,none,.bin .add (.t 59) (.c (.d true (.int .i64 1)))⟩,⟨some 5,none,.mv (.t 60)⟩] [2,3,5])))))) (.seq (.region [⟨some 4,none,.mv (.c (.d true (.bool false)))⟩] [4]) (.ret))))
theorem ok48 : FnOk Try.prog Try.f48 84 keep48 ac48 [.t 4]:=by
  refine ⟨?_,?_,?_,?_,?_⟩ <;> kernel_rfl

/-! spec.l2Draw -/
/-! (*impl.knower).add -/
/-! (*impl.knower).apart -/
/-! spec.l2Made -/
/-! spec.Same -/
def keep53 : Nat → List Nat
  | 0 => [2,3]
  | 1 => [2,3,33]
  | 2 => [4]
  | 3 => [2,3,5]
  | 4 => [2,3,5,38]
  | 5 => [2,3,5]
  | 6 => [2,3,5,52]
  | 7 => [4]
  | 8 => [4]
  | _ => []
def ac53 : AC:=.seq (.region [⟨some 2,none,.box (.t 0)⟩,⟨some 3,none,.box (.t 1)⟩,⟨some 4,none,.mv (.c (.d true (.bool false)))⟩] [2,3]) (.seq (.seq (.region [⟨some 6,none,.fa 0 (.t 2)⟩,⟨some 7,none,.ld none (.t 6)⟩,⟨some 8,none,.fa 0 (.t 3)⟩,⟨some 9,none,.ld none (.t 8)⟩,⟨some 10,none,.bin .neq (.t 7) (.t 9)⟩,⟨some 11,none,.mv (.t 10)⟩,⟨some 12,some (11,false),.fa 1 (.t 2)⟩,⟨some 13,some (11,false),.ld none (.t 12)⟩,⟨some 14,some (11,false),.fa 1 (.t 3)⟩,⟨some 15,some (11,false),.ld none (.t 14)⟩,⟨some 16,some (11,false),.bin .neq (.t 13) (.t 15)⟩,⟨some 17,none,.pick (.t 11) (.c (.d true (.bool true))) (.t 16)⟩,⟨some 18,none,.mv (.t 17)⟩,⟨some 19,some (18,false),.fa 2 (.t 2)⟩,⟨some 20,some (18,false),.ld none (.t 19)⟩,⟨some 21,some (18,false),.fa 2 (.t 3)⟩,⟨some 22,some (18,false),.ld none (.t 21)⟩,⟨some 23,some (18,false),.bin .neq (.t 20) (.t 22)⟩,⟨some 24,none,.pick (.t 18) (.c (.d true (.bool true))) (.t 23)⟩,⟨some 25,none,.mv (.t 24)⟩,⟨some 26,some (25,false),.fa 3 (.t 2)⟩,⟨some 27,some (25,false),.ld none (.t 26)⟩,⟨some 28,some (25,false),.len (.t 27)⟩,⟨some 29,some (25,false),.fa 3 (.t 3)⟩,⟨some 30,some (25,false),.ld none (.t 29)⟩,⟨some 31,some (25,false),.len (.t 30)⟩,⟨some 32,some (25,false),.bin .neq (.t 28) (.t 31)⟩,⟨some 33,none,.pick (.t 25) (.c (.d true (.bool true))) (.t 32)⟩] [2,3,33]) (.cond (.t 33) (.seq (.region [⟨some 4,none,.mv (.c (.d true (.bool false)))⟩] [4]) (.ret)) (.skip))) (.seq (.seq (.region [⟨some 5,none,.mv (.c (.d true (.int .i64 0)))⟩] [2,3,5]) (.block 0 (.loop (.seq (.seq (.region [⟨some 34,none,.mv (.t 5)⟩,⟨some 35,none,.fa 3 (.t 2)⟩,⟨some 36,none,.ld none (.t 35)⟩,⟨some 37,none,.len (.t 36)⟩,⟨some 38,none,.bin .lss (.t 34) (.t 37)⟩] [2,3,5,38]) (.cond (.t 38) (.skip) (.exit 0))) (.seq (.block 1 (.seq (.draw [⟨some 41,none,.fa 3 (.t 2)⟩,⟨some 42,none,.ld none (.t 41)⟩,⟨some 43,none,.mv (.t 5)⟩,⟨some 44,none,.ia 4 (.t 42) (.t 43)⟩,⟨some 45,none,.ld (some 4) (.t 44)⟩,⟨some 46,none,.fa 3 (.t 3)⟩,⟨some 47,none,.ld none (.t 46)⟩,⟨some 48,none,.mv (.t 5)⟩,⟨some 49,none,.ia 4 (.t 47) (.t 48)⟩,⟨some 50,none,.ld (some 4) (.t 49)⟩,⟨some 51,none,.call (.c (.fn 53 [])) [.t 45,.t 50]⟩,⟨some 52,none,.not (.t 51)⟩] [2,3,5,52]) (.cond (.t 52) (.seq (.region [⟨some 4,none,.mv (.c (.d true (.bool false)))⟩] [4]) (.ret)) (.skip)))) (.region [⟨some 39,none,.mv (.t 5)⟩,⟨some 40,none,.bin .add (.t 39) (.c (.d true (.int .i64 1)))⟩,⟨some 5,none,.mv (.t 40)⟩] [2,3,5])))))) (.seq (.region [⟨some 4,none,.mv (.c (.d true (.bool true)))⟩] [4]) (.ret))))
theorem ok53 : FnOk Try.prog Try.f53 53 keep53 ac53 [.t 4]:=by
  refine ⟨?_,?_,?_,?_,?_⟩ <;> kernel_rfl

/-! spec.l2Add -/
/-! impl.made -/
/-! spec.l1Below -/
def keep56 : Nat → List Nat
  | 0 => [0,1,1000000,1000001]
  | 1 => [0,1,10,1000000,1000001]
  | 2 => [4,1000000,1000001]
  | 3 => [0,1,12,1000000,1000001]
  | 4 => [4,1000000,1000001]
  | 5 => [0,1,5,1000000,1000001]
  | 6 => [0,1,5,6,1000000,1000001]
  | 7 => [0,1,5,6,7,1000000,1000001]
  | 8 => [1,5,6,7,8,1000000,1000001]
  | 9 => [4,1000000,1000001]
  | _ => []
def ac56 : AC:=.seq (.region [⟨some 4,none,.mv (.c (.d true (.int .i64 0)))⟩] [0,1,1000000,1000001]) (.seq (.seq (.region [⟨some 9,none,.mv (.t 1)⟩,⟨some 10,none,.bin .leq (.t 9) (.c (.d true (.int .i64 0)))⟩] [0,1,10,1000000,1000001]) (.cond (.t 10) (.seq (.region [⟨some 4,none,.mv (.c (.d true (.int .i64 0)))⟩] [4,1000000,1000001]) (.ret)) (.skip))) (.seq (.seq (.region [⟨some 11,none,.mv (.t 1)⟩,⟨some 12,none,.bin .leq (.t 11) (.c (.d true (.int .i64 256)))⟩] [0,1,12,1000000,1000001]) (.cond (.t 12) (.seq (.region [⟨some 13,none,.mv (.t 0)⟩,⟨some 14,none,.call (.c (.fn 70 [])) [.t 13]⟩,⟨some 15,none,.mv (.t 1)⟩,⟨some 16,none,.bin .rem (.t 14) (.t 15)⟩,⟨some 4,none,.mv (.t 16)⟩] [4,1000000,1000001]) (.ret)) (.skip))) (.seq (.region [⟨some 17,none,.mv (.t 0)⟩,⟨some 18,none,.call (.c (.fn 70 [])) [.t 17]⟩,⟨some 5,none,.mv (.t 18)⟩] [0,1,5,1000000,1000001]) (.seq (.region [⟨some 19,none,.mv (.t 0)⟩,⟨some 20,none,.call (.c (.fn 70 [])) [.t 19]⟩,⟨some 6,none,.mv (.t 20)⟩] [0,1,5,6,1000000,1000001]) (.seq (.region [⟨some 21,none,.mv (.t 0)⟩,⟨some 22,none,.call (.c (.fn 70 [])) [.t 21]⟩,⟨some 7,none,.mv (.t 22)⟩] [0,1,5,6,7,1000000,1000001]) (.seq (.region [⟨some 23,none,.mv (.t 0)⟩,⟨some 24,none,.call (.c (.fn 70 [])) [.t 23]⟩,⟨some 8,none,.mv (.t 24)⟩] [1,5,6,7,8,1000000,1000001]) (.seq (.region [⟨some 25,none,.mv (.t 5)⟩,⟨some 26,none,.bin .mul (.t 25) (.c (.d true (.int .i64 16777216)))⟩,⟨some 27,none,.mv (.t 6)⟩,⟨some 28,none,.bin .mul (.t 27) (.c (.d true (.int .i64 65536)))⟩,⟨some 29,none,.bin .add (.t 26) (.t 28)⟩,⟨some 30,none,.mv (.t 7)⟩,⟨some 31,none,.bin .mul (.t 30) (.c (.d true (.int .i64 256)))⟩,⟨some 32,none,.bin .add (.t 29) (.t 31)⟩,⟨some 33,none,.mv (.t 8)⟩,⟨some 34,none,.bin .add (.t 32) (.t 33)⟩,⟨some 35,none,.mv (.t 1)⟩,⟨some 36,none,.bin .rem (.t 34) (.t 35)⟩,⟨some 4,none,.mv (.t 36)⟩] [4,1000000,1000001]) (.ret))))))))
theorem ok56 : FnOk Try.prog Try.f56 37 keep56 ac56 [.t 4]:=by
  refine ⟨?_,?_,?_,?_,?_⟩ <;> kernel_rfl

/-! spec.l1DrawRight -/
def keep57 : Nat → List Nat
  | 0 => [0,1,4,1000000,1000001]
  | 1 => [0,1,4,13,1000000,1000001]
  | 2 => [0,4,15,1000000,1000001]
  | 3 => [4,1000000,1000001]
  | 4 => [4,1000000,1000001]
  | 5 => [0,1,4,5,1000000,1000001]
  | 6 => [0,1,4,5,28,1000000,1000001]
  | 7 => [0,1,4,5,28,29,1000000,1000001]
  | 8 => [4,1000000,1000001]
  | 9 => [0,1,4,5,28,33,1000000,1000001]
  | 10 => [4,1000000,1000001]
  | 11 => [0,1,4,5,28,37,1000000,1000001]
  | 12 => [4,5,6,7,1000000,1000001]
  | 13 => [4,5,6,49,1000000,1000001]
  | 14 => [4,1000000,1000001]
  | 15 => [4,1000000,1000001]
  | 16 => [0,1,4,5,28,52,1000000,1000001]
  | 17 => [4,1000000,1000001]
  | 18 => [0,1,4,5,62,1000000,1000001]
  | 19 => [4,1000000,1000001]
  | 20 => [4,1000000,1000001]
  | 1000012 => [1]
  | 1000017 => [1]
  | 1000019 => [1]
  | 1000020 => [1]
  | _ => []
def ac57 : AC:=.seq (.region [⟨some 4,none,.alloc [.d true (.int .i64 0),.d true (.int .i64 0),.d true (.str ⟨#[]⟩),.nil]⟩] [0,1,4,1000000,1000001]) (.seq (.seq (.region [⟨some 8,none,.mv (.t 1)⟩,⟨some 9,none,.bin .eql (.t 8) (.c (.d true (.int .i64 0)))⟩,⟨some 10,none,.mv (.t 9)⟩,⟨some 11,some (10,false),.mv (.t 0)⟩,⟨some 12,some (10,false),.call (.c (.fn 45 [])) [.t 11,.c (.d true (.int .i64 4))]⟩,⟨some 13,none,.pick (.t 10) (.c (.d true (.bool true))) (.t 12)⟩] [0,1,4,13,1000000,1000001]) (.cond (.t 13) (.seq (.seq (.region [⟨some 14,none,.mv (.t 0)⟩,⟨some 15,none,.call (.c (.fn 45 [])) [.t 14,.c (.d true (.int .i64 3))]⟩] [0,4,15,1000000,1000001]) (.cond (.t 15) (.seq (.region [⟨some 16,none,.mv (.t 0)⟩,⟨some 17,none,.bs 9 1 [.c (.d true (.str ⟨#[]⟩)),.c (.d true (.str ⟨#[97]⟩)),.c (.d true (.str ⟨#[109,120,46,97]⟩)),.c (.d true (.str ⟨#[50,53,48]⟩))]⟩,⟨some 18,none,.call (.c (.fn 71 [])) [.t 16,.t 17]⟩,⟨some 19,none,.bld [.d true (.int .i64 0),.d true (.int .i64 0),.d true (.str ⟨#[]⟩),.nil] [(0,1,.c (.d true (.int .i64 2))),(2,1,.t 18)]⟩,⟨none,none,.st 4 (.t 4) (.t 19)⟩] [4,1000000,1000001]) (.ret)) (.skip))) (.seq (.region [⟨some 20,none,.mv (.t 0)⟩,⟨some 21,none,.call (.c (.fn 56 [])) [.t 20,.c (.d true (.int .i64 9))]⟩,⟨some 22,none,.bld [.d true (.int .i64 0),.d true (.int .i64 0),.d true (.str ⟨#[]⟩),.nil] [(0,1,.c (.d true (.int .i64 1))),(1,1,.t 21)]⟩,⟨none,none,.st 4 (.t 4) (.t 22)⟩] [4,1000000,1000001]) (.ret))) (.skip))) (.seq (.region [⟨some 23,none,.mv (.t 0)⟩,⟨some 24,none,.mv (.t 1)⟩,⟨some 25,none,.bin .sub (.t 24) (.c (.d true (.int .i64 1)))⟩,⟨some 26,none,.call (.c (.fn 57 [])) [.t 23,.t 25]⟩,⟨some 5,none,.alloc [.d true (.int .i64 0),.d true (.int .i64 0),.d true (.str ⟨#[]⟩),.nil]⟩,⟨none,none,.st 4 (.t 5) (.t 26)⟩] [0,1,4,5,1000000,1000001]) (.seq (.seq (.region [⟨some 27,none,.mv (.t 0)⟩,⟨some 28,none,.call (.c (.fn 56 [])) [.t 27,.c (.d true (.int .i64 7))]⟩] [0,1,4,5,28,1000000,1000001]) (.block 0 (.seq (.region [⟨some 30,none,.bin .eql (.t 28) (.c (.d true (.int .i64 0)))⟩,⟨some 29,none,.mv (.t 30)⟩] [0,1,4,5,28,29,1000000,1000001]) (.cond (.t 29) (.seq (.region [⟨some 31,none,.ld (some 4) (.t 5)⟩,⟨some 32,none,.call (.c (.fn 18 [])) [.t 31]⟩,⟨none,none,.st 4 (.t 4) (.t 32)⟩] [4,1000000,1000001]) (.ret)) (.seq (.region [⟨some 34,none,.bin .eql (.t 28) (.c (.d true (.int .i64 1)))⟩,⟨some 33,none,.mv (.t 34)⟩] [0,1,4,5,28,33,1000000,1000001]) (.cond (.t 33) (.seq (.region [⟨some 35,none,.ld (some 4) (.t 5)⟩,⟨some 36,none,.call (.c (.fn 19 [])) [.t 35]⟩,⟨none,none,.st 4 (.t 4) (.t 36)⟩] [4,1000000,1000001]) (.ret)) (.seq (.region [⟨some 38,none,.bin .eql (.t 28) (.c (.d true (.int .i64 2)))⟩,⟨some 37,none,.mv (.t 38)⟩] [0,1,4,5,28,37,1000000,1000001]) (.cond (.t 37) (.seq (.tree (.take ⟨some 40,none,.ld (some 4) (.t 5)⟩ (.take ⟨some 41,none,.mv (.t 0)⟩ (.take ⟨some 42,none,.mv (.t 1)⟩ (.take ⟨some 43,none,.bin .sub (.t 42) (.c (.d true (.int .i64 1)))⟩ (.br (.cons ⟨some 44,none,.call (.c (.fn 57 [])) [.t 41,.t 43]⟩ (.br (.cons ⟨some 45,none,.call (.c (.fn 18 [])) [.t 44]⟩ (.br (.cons ⟨some 46,none,.call (.c (.fn 23 [])) [.t 40,.t 45]⟩ (.take ⟨some 39,none,.mv (.t 46)⟩ (.take ⟨some 47,none,.ext (.t 39) 0⟩ (.take ⟨some 48,none,.ext (.t 39) 1⟩ (.br (.cons ⟨some 6,none,.alloc [.d true (.int .i64 0),.d true (.int .i64 0),.d true (.str ⟨#[]⟩),.nil]⟩ (.br (.cons ⟨none,none,.st 4 (.t 6) (.t 47)⟩ (.take ⟨some 7,none,.mv (.t 48)⟩ (.done)) (.nil))) (.nil)))))) (.cons ⟨some 6,none,.alloc [.d true (.int .i64 0),.d true (.int .i64 0),.d true (.str ⟨#[]⟩),.nil]⟩ (.br (.cons ⟨some 46,none,.call (.c (.fn 23 [])) [.t 40,.t 45]⟩ (.take ⟨some 39,none,.mv (.t 46)⟩ (.take ⟨some 47,none,.ext (.t 39) 0⟩ (.take ⟨some 48,none,.ext (.t 39) 1⟩ (.br (.cons ⟨none,none,.st 4 (.t 6) (.t 47)⟩ (.take ⟨some 7,none,.mv (.t 48)⟩ (.done)) (.nil)))))) (.nil))) (.nil)))) (.cons ⟨some 6,none,.alloc [.d true (.int .i64 0),.d true (.int .i64 0),.d true (.str ⟨#[]⟩),.nil]⟩ (.br (.cons ⟨some 45,none,.call (.c (.fn 18 [])) [.t 44]⟩ (.br (.cons ⟨some 46,none,.call (.c (.fn 23 [])) [.t 40,.t 45]⟩ (.take ⟨some 39,none,.mv (.t 46)⟩ (.take ⟨some 47,none,.ext (.t 39) 0⟩ (.take ⟨some 48,none,.ext (.t 39) 1⟩ (.br (.cons ⟨none,none,.st 4 (.t 6) (.t 47)⟩ (.take ⟨some 7,none,.mv (.t 48)⟩ (.done)) (.nil)))))) (.nil))) (.nil))) (.nil)))) (.cons ⟨some 6,none,.alloc [.d true (.int .i64 0),.d true (.int .i64 0),.d true (.str ⟨#[]⟩),.nil]⟩ (.br (.cons ⟨some 44,none,.call (.c (.fn 57 [])) [.t 41,.t 43]⟩ (.br (.cons ⟨some 45,none,.call (.c (.fn 18 [])) [.t 44]⟩ (.br (.cons ⟨some 46,none,.call (.c (.fn 23 [])) [.t 40,.t 45]⟩ (.take ⟨some 39,none,.mv (.t 46)⟩ (.take ⟨some 47,none,.ext (.t 39) 0⟩ (.take ⟨some 48,none,.ext (.t 39) 1⟩ (.br (.cons ⟨none,none,.st 4 (.t 6) (.t 47)⟩ (.take ⟨some 7,none,.mv (.t 48)⟩ (.done)) (.nil)))))) (.nil))) (.nil))) (.nil))) (.nil)))))))) [4,5,6,7,1000000,1000001]) (.seq (.seq (.region [⟨some 49,none,.mv (.t 7)⟩] [4,5,6,49,1000000,1000001]) (.cond (.t 49) (.seq (.region [⟨some 50,none,.ld (some 4) (.t 6)⟩,⟨none,none,.st 4 (.t 4) (.t 50)⟩] [4,1000000,1000001]) (.ret)) (.skip))) (.seq (.region [⟨some 51,none,.ld (some 4) (.t 5)⟩,⟨none,none,.st 4 (.t 4) (.t 51)⟩] [4,1000000,1000001]) (.ret)))) (.seq (.region [⟨some 53,none,.bin .eql (.t 28) (.c (.d true (.int .i64 3)))⟩,⟨some 52,none,.mv (.t 53)⟩] [0,1,4,5,28,52,1000000,1000001]) (.cond (.t 52) (.seq (.tree (.take ⟨some 54,none,.ld (some 4) (.t 5)⟩ (.take ⟨some 55,none,.mv (.t 0)⟩ (.take ⟨some 57,none,.mv (.t 0)⟩ (.take ⟨some 58,none,.mv (.t 1)⟩ (.take ⟨some 59,none,.bin .sub (.t 58) (.c (.d true (.int .i64 1)))⟩ (.br (.cons ⟨some 56,none,.call (.c (.fn 56 [])) [.t 55,.c (.d true (.int .i64 3))]⟩ (.br (.cons ⟨some 60,none,.call (.c (.fn 57 [])) [.t 57,.t 59]⟩ (.br (.cons ⟨some 61,none,.call (.c (.fn 72 [])) [.t 54,.t 56,.t 60]⟩ (.br (.cons ⟨none,none,.st 4 (.t 4) (.t 61)⟩ (.done) (.nil))) (.nil))) (.nil))) (.nil)))))))) [4,1000000,1000001]) (.ret)) (.seq (.region [⟨some 63,none,.bin .eql (.t 28) (.c (.d true (.int .i64 4)))⟩,⟨some 62,none,.mv (.t 63)⟩] [0,1,4,5,62,1000000,1000001]) (.cond (.t 62) (.seq (.tree (.take ⟨some 64,none,.ld (some 4) (.t 5)⟩ (.take ⟨some 65,none,.mv (.t 0)⟩ (.take ⟨some 66,none,.mv (.t 1)⟩ (.take ⟨some 67,none,.bin .sub (.t 66) (.c (.d true (.int .i64 1)))⟩ (.br (.cons ⟨some 68,none,.call (.c (.fn 57 [])) [.t 65,.t 67]⟩ (.br (.cons ⟨some 69,none,.call (.c (.fn 73 [])) [.t 64,.t 68]⟩ (.br (.cons ⟨none,none,.st 4 (.t 4) (.t 69)⟩ (.done) (.nil))) (.nil))) (.nil))))))) [4,1000000,1000001]) (.ret)) (.skip))))))))))))) (.seq (.tree (.take ⟨some 70,none,.ld (some 4) (.t 5)⟩ (.take ⟨some 71,none,.mv (.t 0)⟩ (.take ⟨some 72,none,.mv (.t 1)⟩ (.take ⟨some 73,none,.bin .sub (.t 72) (.c (.d true (.int .i64 1)))⟩ (.br (.cons ⟨some 74,none,.call (.c (.fn 57 [])) [.t 71,.t 73]⟩ (.br (.cons ⟨some 75,none,.call (.c (.fn 16 [])) [.t 70,.t 74]⟩ (.br (.cons ⟨none,none,.st 4 (.t 4) (.t 75)⟩ (.done) (.nil))) (.nil))) (.nil))))))) [4,1000000,1000001]) (.ret)))))
theorem ok57 : FnOk Try.prog Try.f57 76 keep57 ac57 [.c 4 (some 4)]:=by
  refine ⟨?_,?_,?_,?_,?_⟩ <;> kernel_rfl

/-! impl.clone -/
def keep58 : Nat → List Nat
  | 0 => [1,2]
  | 1 => [1,2]
  | 2 => [2]
  | _ => []
def ac58 : AC:=.seq (.region [⟨some 1,none,.box (.t 0)⟩,⟨some 2,none,.alloc [.d true (.int .i64 0),.d true (.int .i64 0),.d true (.str ⟨#[]⟩),.nil]⟩] [1,2]) (.seq (.region [⟨some 3,none,.fa 3 (.t 1)⟩,⟨some 4,none,.ld none (.t 3)⟩,⟨some 5,none,.call (.c (.fn 74 [])) [.t 4]⟩,⟨some 6,none,.fa 3 (.t 1)⟩,⟨none,none,.st 1 (.t 6) (.t 5)⟩] [1,2]) (.seq (.region [⟨some 7,none,.ld (some 4) (.t 1)⟩,⟨none,none,.st 4 (.t 2) (.t 7)⟩] [2]) (.ret)))
theorem ok58 : FnOk Try.prog Try.f58 8 keep58 ac58 [.c 2 (some 4)]:=by
  refine ⟨?_,?_,?_,?_,?_⟩ <;> kernel_rfl

/-! impl.arity -/
def keep59 : Nat → List Nat
  | 0 => [0]
  | 1 => [3]
  | 2 => [3,4]
  | 3 => [3,4]
  | 4 => [2]
  | 5 => [3,7]
  | 6 => [3,7]
  | 7 => [2]
  | 8 => [3,10]
  | 9 => [3,10]
  | 10 => [3,10]
  | 11 => [10]
  | 12 => [2]
  | 13 => [2]
  | _ => []
def ac59 : AC:=.seq (.region [⟨some 2,none,.mv (.c (.d true (.int .i64 0)))⟩] [0]) (.seq (.seq (.region [⟨some 3,none,.mv (.t 0)⟩] [3]) (.block 0 (.seq (.seq (.region [⟨some 5,none,.bin .eql (.t 3) (.c (.d true (.int .i64 1)))⟩,⟨some 4,none,.mv (.t 5)⟩] [3,4]) (.cond (.t 4) (.skip) (.region [⟨some 6,none,.bin .eql (.t 3) (.c (.d true (.int .i64 2)))⟩,⟨some 4,none,.mv (.t 6)⟩] [3,4]))) (.cond (.t 4) (.seq (.region [⟨some 2,none,.mv (.c (.d true (.int .i64 0)))⟩] [2]) (.ret)) (.seq (.seq (.region [⟨some 8,none,.bin .eql (.t 3) (.c (.d true (.int .i64 4)))⟩,⟨some 7,none,.mv (.t 8)⟩] [3,7]) (.cond (.t 7) (.skip) (.region [⟨some 9,none,.bin .eql (.t 3) (.c (.d true (.int .i64 6)))⟩,⟨some 7,none,.mv (.t 9)⟩] [3,7]))) (.cond (.t 7) (.seq (.region [⟨some 2,none,.mv (.c (.d true (.int .i64 1)))⟩] [2]) (.ret)) (.seq (.seq (.region [⟨some 11,none,.bin .eql (.t 3) (.c (.d true (.int .i64 3)))⟩,⟨some 10,none,.mv (.t 11)⟩] [3,10]) (.cond (.t 10) (.skip) (.seq (.region [⟨some 12,none,.bin .eql (.t 3) (.c (.d true (.int .i64 5)))⟩,⟨some 10,none,.mv (.t 12)⟩] [3,10]) (.cond (.t 10) (.skip) (.seq (.region [⟨some 13,none,.bin .eql (.t 3) (.c (.d true (.int .i64 7)))⟩,⟨some 10,none,.mv (.t 13)⟩] [3,10]) (.cond (.t 10) (.skip) (.region [⟨some 14,none,.bin .eql (.t 3) (.c (.d true (.int .i64 8)))⟩,⟨some 10,none,.mv (.t 14)⟩] [10]))))))) (.cond (.t 10) (.seq (.region [⟨some 2,none,.mv (.c (.d true (.int .i64 2)))⟩] [2]) (.ret)) (.skip))))))))) (.seq (.region [⟨some 2,none,.mv (.c (.d true (.int .i64 (-1))))⟩] [2]) (.ret)))
theorem ok59 : FnOk Try.prog Try.f59 15 keep59 ac59 [.t 2]:=by
  refine ⟨?_,?_,?_,?_,?_⟩ <;> kernel_rfl

/-! slices.ContainsFunc[[]impl.Term,impl.Term] -/
def keep60 : Nat → List Nat
  | 0 => [0,1]
  | 1 => [4]
  | _ => []
def ac60 : AC:=.seq (.region [⟨some 4,none,.mv (.c (.d true (.bool false)))⟩] [0,1]) (.seq (.region [⟨some 5,none,.mv (.t 0)⟩,⟨some 6,none,.mv (.t 1)⟩,⟨some 7,none,.call (.c (.fn 75 [])) [.t 5,.t 6]⟩,⟨some 8,none,.bin .geq (.t 7) (.c (.d true (.int .i64 0)))⟩,⟨some 4,none,.mv (.t 8)⟩] [4]) (.ret))
theorem ok60 : FnOk Try.prog Try.f60 9 keep60 ac60 [.t 4]:=by
  refine ⟨?_,?_,?_,?_,?_⟩ <;> kernel_rfl

/-! impl.formOk$1 -/
def keep61 : Nat → List Nat
  | 0 => [1]
  | 1 => [2]
  | _ => []
def ac61 : AC:=.seq (.region [⟨some 1,none,.box (.t 0)⟩,⟨some 2,none,.mv (.c (.d true (.bool false)))⟩] [1]) (.seq (.region [⟨some 3,none,.ld (some 4) (.t 1)⟩,⟨some 4,none,.call (.c (.fn 44 [])) [.t 3]⟩,⟨some 5,none,.not (.t 4)⟩,⟨some 2,none,.mv (.t 5)⟩] [2]) (.ret))
theorem ok61 : FnOk Try.prog Try.f61 6 keep61 ac61 [.t 2]:=by
  refine ⟨?_,?_,?_,?_,?_⟩ <;> kernel_rfl

/-! impl.in -/
def keep62 : Nat → List Nat
  | 0 => [0,1,2]
  | 1 => [6]
  | _ => []
def ac62 : AC:=.seq (.region [⟨some 6,none,.mv (.c (.d true (.bool false)))⟩] [0,1,2]) (.seq (.region [⟨some 7,none,.mv (.t 0)⟩,⟨some 8,none,.mv (.t 1)⟩,⟨some 9,none,.bin .geq (.t 7) (.t 8)⟩,⟨some 10,none,.mv (.t 9)⟩,⟨some 11,some (10,true),.mv (.t 0)⟩,⟨some 12,some (10,true),.mv (.t 2)⟩,⟨some 13,some (10,true),.bin .leq (.t 11) (.t 12)⟩,⟨some 14,none,.pick (.t 10) (.t 13) (.c (.d true (.bool false)))⟩,⟨some 6,none,.mv (.t 14)⟩] [6]) (.ret))
theorem ok62 : FnOk Try.prog Try.f62 15 keep62 ac62 [.t 6]:=by
  refine ⟨?_,?_,?_,?_,?_⟩ <;> kernel_rfl

/-! spec.TermSize -/
def keep63 : Nat → List Nat
  | 0 => [1]
  | 1 => [1,3]
  | 2 => [1,3,4]
  | 3 => [1,3,4,9]
  | 4 => [1,3,4]
  | 5 => [1,3,4]
  | 6 => [2]
  | _ => []
def ac63 : AC:=.seq (.region [⟨some 1,none,.box (.t 0)⟩,⟨some 2,none,.mv (.c (.d true (.int .i64 0)))⟩] [1]) (.seq (.region [⟨some 3,none,.mv (.c (.d true (.int .i64 1)))⟩] [1,3]) (.seq (.seq (.region [⟨some 4,none,.mv (.c (.d true (.int .i64 0)))⟩] [1,3,4]) (.block 0 (.loop (.seq (.seq (.region [⟨some 5,none,.mv (.t 4)⟩,⟨some 6,none,.fa 3 (.t 1)⟩,⟨some 7,none,.ld none (.t 6)⟩,⟨some 8,none,.len (.t 7)⟩,⟨some 9,none,.bin .lss (.t 5) (.t 8)⟩] [1,3,4,9]) (.cond (.t 9) (.skip) (.exit 0))) (.seq (.block 1 (.region [⟨some 12,none,.mv (.t 3)⟩,⟨some 13,none,.fa 3 (.t 1)⟩,⟨some 14,none,.ld none (.t 13)⟩,⟨some 15,none,.mv (.t 4)⟩,⟨some 16,none,.ia 4 (.t 14) (.t 15)⟩,⟨some 17,none,.ld (some 4) (.t 16)⟩,⟨some 18,none,.call (.c (.fn 63 [])) [.t 17]⟩,⟨some 19,none,.bin .add (.t 12) (.t 18)⟩,⟨some 3,none,.mv (.t 19)⟩] [1,3,4])) (.region [⟨some 10,none,.mv (.t 4)⟩,⟨some 11,none,.bin .add (.t 10) (.c (.d true (.int .i64 1)))⟩,⟨some 4,none,.mv (.t 11)⟩] [1,3,4])))))) (.seq (.region [⟨some 20,none,.mv (.t 3)⟩,⟨some 2,none,.mv (.t 20)⟩] [2]) (.ret))))
theorem ok63 : FnOk Try.prog Try.f63 21 keep63 ac63 [.t 2]:=by
  refine ⟨?_,?_,?_,?_,?_⟩ <;> kernel_rfl

/-! spec.l1Right -/
def keep64 : Nat → List Nat
  | 0 => [1]
  | 1 => [1,42]
  | 2 => [2]
  | 3 => [1,3]
  | 4 => [1,3,47]
  | 5 => [1,3]
  | 6 => [1,3,56]
  | 7 => [2]
  | 8 => [2]
  | _ => []
def ac64 : AC:=.seq (.region [⟨some 1,none,.box (.t 0)⟩,⟨some 2,none,.mv (.c (.d true (.bool false)))⟩] [1]) (.seq (.seq (.draw [⟨some 4,none,.fa 0 (.t 1)⟩,⟨some 5,none,.ld none (.t 4)⟩,⟨some 6,none,.call (.c (.fn 76 [])) [.t 5]⟩,⟨some 7,none,.fa 3 (.t 1)⟩,⟨some 8,none,.ld none (.t 7)⟩,⟨some 9,none,.len (.t 8)⟩,⟨some 10,none,.bin .neq (.t 6) (.t 9)⟩,⟨some 11,none,.mv (.t 10)⟩,⟨some 12,some (11,false),.fa 0 (.t 1)⟩,⟨some 13,some (11,false),.ld none (.t 12)⟩,⟨some 14,some (11,false),.bin .neq (.t 13) (.c (.d true (.int .i64 1)))⟩,⟨some 15,some (11,false),.mv (.t 14)⟩,⟨some 16,some (15,true),.fa 1 (.t 1)⟩,⟨some 17,some (15,true),.ld none (.t 16)⟩,⟨some 18,some (15,true),.bin .neq (.t 17) (.c (.d true (.int .i64 0)))⟩,⟨some 19,some (11,false),.pick (.t 15) (.t 18) (.c (.d true (.bool false)))⟩,⟨some 20,none,.pick (.t 11) (.c (.d true (.bool true))) (.t 19)⟩,⟨some 21,none,.mv (.t 20)⟩,⟨some 22,some (21,false),.fa 0 (.t 1)⟩,⟨some 23,some (21,false),.ld none (.t 22)⟩,⟨some 24,some (21,false),.bin .neq (.t 23) (.c (.d true (.int .i64 2)))⟩,⟨some 25,some (21,false),.mv (.t 24)⟩,⟨some 26,some (25,true),.fa 2 (.t 1)⟩,⟨some 27,some (25,true),.ld none (.t 26)⟩,⟨some 28,some (25,true),.bin .neq (.t 27) (.c (.d true (.str ⟨#[]⟩)))⟩,⟨some 29,some (21,false),.pick (.t 25) (.t 28) (.c (.d true (.bool false)))⟩,⟨some 30,none,.pick (.t 21) (.c (.d true (.bool true))) (.t 29)⟩,⟨some 31,none,.mv (.t 30)⟩,⟨some 32,some (31,false),.fa 1 (.t 1)⟩,⟨some 33,some (31,false),.ld none (.t 32)⟩,⟨some 34,some (31,false),.call (.c (.fn 77 [])) [.t 33,.c (.d true (.int .i64 0)),.c (.d true (.int .i64 1000000))]⟩,⟨some 35,some (31,false),.not (.t 34)⟩,⟨some 36,none,.pick (.t 31) (.c (.d true (.bool true))) (.t 35)⟩,⟨some 37,none,.mv (.t 36)⟩,⟨some 38,some (37,false),.fa 2 (.t 1)⟩,⟨some 39,some (37,false),.ld none (.t 38)⟩,⟨some 40,some (37,false),.slen (.t 39)⟩,⟨some 41,some (37,false),.bin .gtr (.t 40) (.c (.d true (.int .i64 300)))⟩,⟨some 42,none,.pick (.t 37) (.c (.d true (.bool true))) (.t 41)⟩] [1,42]) (.cond (.t 42) (.seq (.region [⟨some 2,none,.mv (.c (.d true (.bool false)))⟩] [2]) (.ret)) (.skip))) (.seq (.seq (.region [⟨some 3,none,.mv (.c (.d true (.int .i64 0)))⟩] [1,3]) (.block 0 (.loop (.seq (.seq (.region [⟨some 43,none,.mv (.t 3)⟩,⟨some 44,none,.fa 3 (.t 1)⟩,⟨some 45,none,.ld none (.t 44)⟩,⟨some 46,none,.len (.t 45)⟩,⟨some 47,none,.bin .lss (.t 43) (.t 46)⟩] [1,3,47]) (.cond (.t 47) (.skip) (.exit 0))) (.seq (.block 1 (.seq (.region [⟨some 50,none,.fa 3 (.t 1)⟩,⟨some 51,none,.ld none (.t 50)⟩,⟨some 52,none,.mv (.t 3)⟩,⟨some 53,none,.ia 4 (.t 51) (.t 52)⟩,⟨some 54,none,.ld (some 4) (.t 53)⟩,⟨some 55,none,.call (.c (.fn 64 [])) [.t 54]⟩,⟨some 56,none,.not (.t 55)⟩] [1,3,56]) (.cond (.t 56) (.seq (.region [⟨some 2,none,.mv (.c (.d true (.bool false)))⟩] [2]) (.ret)) (.skip)))) (.region [⟨some 48,none,.mv (.t 3)⟩,⟨some 49,none,.bin .add (.t 48) (.c (.d true (.int .i64 1)))⟩,⟨some 3,none,.mv (.t 49)⟩] [1,3])))))) (.seq (.draw [⟨some 57,none,.fa 0 (.t 1)⟩,⟨some 58,none,.ld none (.t 57)⟩,⟨some 59,none,.bin .neq (.t 58) (.c (.d true (.int .i64 5)))⟩,⟨some 60,none,.mv (.t 59)⟩,⟨some 61,some (60,false),.fa 3 (.t 1)⟩,⟨some 62,some (60,false),.ld none (.t 61)⟩,⟨some 63,some (60,false),.ia 4 (.t 62) (.c (.d true (.int .i64 1)))⟩,⟨some 64,some (60,false),.ld (some 4) (.t 63)⟩,⟨some 65,some (60,false),.fa 3 (.t 1)⟩,⟨some 66,some (60,false),.ld none (.t 65)⟩,⟨some 67,some (60,false),.ia 4 (.t 66) (.c (.d true (.int .i64 0)))⟩,⟨some 68,some (60,false),.ld (some 4) (.t 67)⟩,⟨some 69,some (60,false),.call (.c (.fn 48 [])) [.t 64,.t 68]⟩,⟨some 70,some (60,false),.not (.t 69)⟩,⟨some 71,none,.pick (.t 60) (.c (.d true (.bool true))) (.t 70)⟩,⟨some 2,none,.mv (.t 71)⟩] [2]) (.ret))))
theorem ok64 : FnOk Try.prog Try.f64 72 keep64 ac64 [.t 2]:=by
  refine ⟨?_,?_,?_,?_,?_⟩ <;> kernel_rfl

/-! impl.hasTerm -/
/-! spec.l2Has -/
/-! spec.l2Pub -/
/-! impl.madePub -/
/-! impl.made$1 -/
/-! spec.l1Byte -/
def keep70 : Nat → List Nat
  | 0 => [0,1000000,1000001]
  | 1 => [0,1000000,1000001]
  | 2 => [0,3,1000000,1000001]
  | 3 => [0,3,34,1000000,1000001]
  | 4 => [0,3,1000000,1000001]
  | 5 => [3,1000000,1000001]
  | 6 => [2,1000000,1000001]
  | _ => []
def ac70 : AC:=.seq (.region [⟨some 2,none,.mv (.c (.d true (.int .i64 0)))⟩] [0,1000000,1000001]) (.seq (.region [⟨some 4,none,.mv (.t 0)⟩,⟨some 5,none,.mv (.t 0)⟩,⟨some 6,none,.ck (.t 5)⟩,⟨some 7,none,.fa 2 (.t 6)⟩,⟨some 8,none,.ld none (.t 7)⟩,⟨some 9,none,.bin .mul (.t 8) (.c (.d true (.int .i64 6364136223846793005)))⟩,⟨some 10,none,.bin .add (.t 9) (.c (.d true (.int .i64 1442695040888963407)))⟩,⟨some 11,none,.ck (.t 4)⟩,⟨some 12,none,.fa 2 (.t 11)⟩,⟨none,none,.st 1 (.t 12) (.t 10)⟩] [0,1000000,1000001]) (.seq (.draw [⟨some 13,none,.mv (.t 0)⟩,⟨some 14,none,.ck (.t 13)⟩,⟨some 15,none,.fa 2 (.t 14)⟩,⟨some 16,none,.ld none (.t 15)⟩,⟨some 17,none,.bin .shr (.t 16) (.c (.d true (.int .u64 33)))⟩,⟨some 18,none,.mv (.t 0)⟩,⟨some 19,none,.ck (.t 18)⟩,⟨some 20,none,.fa 2 (.t 19)⟩,⟨some 21,none,.ld none (.t 20)⟩,⟨some 22,none,.bin .shr (.t 21) (.c (.d true (.int .u64 45)))⟩,⟨some 23,none,.bin .xor (.t 17) (.t 22)⟩,⟨some 24,none,.bin .and (.t 23) (.c (.d true (.int .i64 255)))⟩,⟨some 3,none,.mv (.t 24)⟩] [0,3,1000000,1000001]) (.seq (.seq (.draw [⟨some 25,none,.mv (.t 0)⟩,⟨some 26,none,.ck (.t 25)⟩,⟨some 27,none,.fa 1 (.t 26)⟩,⟨some 28,none,.ld none (.t 27)⟩,⟨some 29,none,.mv (.t 0)⟩,⟨some 30,none,.ck (.t 29)⟩,⟨some 31,none,.fa 0 (.t 30)⟩,⟨some 32,none,.ld none (.t 31)⟩,⟨some 33,none,.len (.t 32)⟩,⟨some 34,none,.bin .lss (.t 28) (.t 33)⟩] [0,3,34,1000000,1000001]) (.cond (.t 34) (.seq (.draw [⟨some 35,none,.mv (.t 3)⟩,⟨some 36,none,.mv (.t 0)⟩,⟨some 37,none,.ck (.t 36)⟩,⟨some 38,none,.fa 0 (.t 37)⟩,⟨some 39,none,.ld none (.t 38)⟩,⟨some 40,none,.mv (.t 0)⟩,⟨some 41,none,.ck (.t 40)⟩,⟨some 42,none,.fa 1 (.t 41)⟩,⟨some 43,none,.ld none (.t 42)⟩,⟨some 44,none,.ia 1 (.t 39) (.t 43)⟩,⟨some 45,none,.ld none (.t 44)⟩,⟨some 46,none,.cvi .i64 (.t 45)⟩,⟨some 47,none,.bin .add (.t 35) (.t 46)⟩,⟨some 48,none,.bin .and (.t 47) (.c (.d true (.int .i64 255)))⟩,⟨some 3,none,.mv (.t 48)⟩] [0,3,1000000,1000001]) (.region [⟨some 49,none,.mv (.t 0)⟩,⟨some 50,none,.mv (.t 0)⟩,⟨some 51,none,.ck (.t 50)⟩,⟨some 52,none,.fa 1 (.t 51)⟩,⟨some 53,none,.ld none (.t 52)⟩,⟨some 54,none,.bin .add (.t 53) (.c (.d true (.int .i64 1)))⟩,⟨some 55,none,.ck (.t 49)⟩,⟨some 56,none,.fa 1 (.t 55)⟩,⟨none,none,.st 1 (.t 56) (.t 54)⟩] [3,1000000,1000001])) (.skip))) (.seq (.region [⟨some 57,none,.mv (.t 3)⟩,⟨some 2,none,.mv (.t 57)⟩] [2,1000000,1000001]) (.ret)))))
theorem ok70 : FnOk Try.prog Try.f70 58 keep70 ac70 [.t 2]:=by
  refine ⟨?_,?_,?_,?_,?_⟩ <;> kernel_rfl

/-! spec.l1Pick -/
def keep71 : Nat → List Nat
  | 0 => [0,1,1000000,1000001]
  | 1 => [4,1000000,1000001]
  | _ => []
def ac71 : AC:=.seq (.region [⟨some 4,none,.mv (.c (.d true (.str ⟨#[]⟩)))⟩] [0,1,1000000,1000001]) (.seq (.region [⟨some 5,none,.mv (.t 1)⟩,⟨some 6,none,.mv (.t 0)⟩,⟨some 7,none,.mv (.t 1)⟩,⟨some 8,none,.len (.t 7)⟩,⟨some 9,none,.call (.c (.fn 56 [])) [.t 6,.t 8]⟩,⟨some 10,none,.ia 1 (.t 5) (.t 9)⟩,⟨some 11,none,.ld none (.t 10)⟩,⟨some 4,none,.mv (.t 11)⟩] [4,1000000,1000001]) (.ret))
theorem ok71 : FnOk Try.prog Try.f71 12 keep71 ac71 [.t 4]:=by
  refine ⟨?_,?_,?_,?_,?_⟩ <;> kernel_rfl

/-! spec.Seal -/
def keep72 : Nat → List Nat
  | 0 => [1,3,5,6]
  | 1 => [6]
  | 1000001 => [1]
  | _ => []
def ac72 : AC:=.seq (.region [⟨some 3,none,.box (.t 0)⟩,⟨some 5,none,.box (.t 2)⟩,⟨some 6,none,.alloc [.d true (.int .i64 0),.d true (.int .i64 0),.d true (.str ⟨#[]⟩),.nil]⟩] [1,3,5,6]) (.seq (.tree (.take ⟨some 7,none,.ld (some 4) (.t 3)⟩ (.take ⟨some 8,none,.mv (.t 1)⟩ (.take ⟨some 10,none,.ld (some 4) (.t 5)⟩ (.br (.cons ⟨some 9,none,.call (.c (.fn 79 [])) [.t 8]⟩ (.br (.cons ⟨some 11,none,.call (.c (.fn 16 [])) [.t 9,.t 10]⟩ (.br (.cons ⟨some 12,none,.call (.c (.fn 41 [])) [.c (.d true (.int .i64 7)),.t 7,.t 11]⟩ (.br (.cons ⟨none,none,.st 4 (.t 6) (.t 12)⟩ (.done) (.nil))) (.nil))) (.nil))) (.nil)))))) [6]) (.ret))
theorem ok72 : FnOk Try.prog Try.f72 13 keep72 ac72 [.c 6 (some 4)]:=by
  refine ⟨?_,?_,?_,?_,?_⟩ <;> kernel_rfl

/-! spec.Sign -/
def keep73 : Nat → List Nat
  | 0 => [2,3,4]
  | 1 => [4]
  | _ => []
def ac73 : AC:=.seq (.region [⟨some 2,none,.box (.t 0)⟩,⟨some 3,none,.box (.t 1)⟩,⟨some 4,none,.alloc [.d true (.int .i64 0),.d true (.int .i64 0),.d true (.str ⟨#[]⟩),.nil]⟩] [2,3,4]) (.seq (.region [⟨some 5,none,.ld (some 4) (.t 2)⟩,⟨some 6,none,.ld (some 4) (.t 3)⟩,⟨some 7,none,.call (.c (.fn 41 [])) [.c (.d true (.int .i64 8)),.t 5,.t 6]⟩,⟨none,none,.st 4 (.t 4) (.t 7)⟩] [4]) (.ret))
theorem ok73 : FnOk Try.prog Try.f73 8 keep73 ac73 [.c 4 (some 4)]:=by
  refine ⟨?_,?_,?_,?_,?_⟩ <;> kernel_rfl

/-! impl.cloneAll -/
def keep74 : Nat → List Nat
  | 0 => [0]
  | 1 => [0,3]
  | 2 => [3,6,7,8]
  | 3 => [3,6,7,8,9]
  | 4 => [3,5,6,7,8]
  | 5 => [3,6,7,8]
  | 6 => [3,6,7,8]
  | 7 => [2]
  | _ => []
def ac74 : AC:=.seq (.region [⟨some 2,none,.own 26 4⟩] [0]) (.seq (.region [⟨some 3,none,.own 26 4⟩] [0,3]) (.seq (.seq (.region [⟨some 6,none,.mv (.t 0)⟩,⟨some 7,none,.len (.t 6)⟩,⟨some 8,none,.mv (.c (.d true (.int .i64 0)))⟩] [3,6,7,8]) (.block 0 (.loop (.seq (.region [⟨some 9,none,.bin .lss (.t 8) (.t 7)⟩] [3,6,7,8,9]) (.seq (.cond (.t 9) (.skip) (.exit 0)) (.seq (.block 1 (.seq (.region [⟨some 10,none,.ia 4 (.t 6) (.t 8)⟩,⟨some 11,none,.ld (some 4) (.t 10)⟩,⟨some 5,none,.alloc [.d true (.int .i64 0),.d true (.int .i64 0),.d true (.str ⟨#[]⟩),.nil]⟩,⟨none,none,.st 4 (.t 5) (.t 11)⟩] [3,5,6,7,8]) (.region [⟨some 12,none,.mv (.t 3)⟩,⟨some 13,none,.ld (some 4) (.t 5)⟩,⟨some 14,none,.call (.c (.fn 58 [])) [.t 13]⟩,⟨some 15,none,.bs 26 4 [.t 14]⟩,⟨some 16,none,.app 26 4 56 (.t 12) (.t 15)⟩,⟨some 3,none,.mv (.t 16)⟩] [3,6,7,8]))) (.region [⟨some 17,none,.bin .add (.t 8) (.c (.d true (.int .i64 1)))⟩,⟨some 8,none,.mv (.t 17)⟩] [3,6,7,8]))))))) (.seq (.region [⟨some 18,none,.mv (.t 3)⟩,⟨some 2,none,.mv (.t 18)⟩] [2]) (.ret))))
theorem ok74 : FnOk Try.prog Try.f74 19 keep74 ac74 [.t 2]:=by
  refine ⟨?_,?_,?_,?_,?_⟩ <;> kernel_rfl

/-! slices.IndexFunc[[]impl.Term,impl.Term] -/
def keep75 : Nat → List Nat
  | 0 => [0,1]
  | 1 => [0,1,7,8]
  | 2 => [0,1,7,8,9]
  | 3 => [0,1,5,7,8]
  | 4 => [0,1,5,7,8,16]
  | 5 => [4]
  | 6 => [0,1,7,8]
  | 7 => [4]
  | _ => []
def ac75 : AC:=.seq (.region [⟨some 4,none,.mv (.c (.d true (.int .i64 0)))⟩] [0,1]) (.seq (.seq (.region [⟨some 6,none,.mv (.t 0)⟩,⟨some 7,none,.len (.t 6)⟩,⟨some 8,none,.mv (.c (.d true (.int .i64 0)))⟩] [0,1,7,8]) (.block 0 (.loop (.seq (.region [⟨some 9,none,.bin .lss (.t 8) (.t 7)⟩] [0,1,7,8,9]) (.seq (.cond (.t 9) (.skip) (.exit 0)) (.seq (.block 1 (.seq (.region [⟨some 10,none,.mv (.t 8)⟩,⟨some 5,none,.mv (.t 10)⟩] [0,1,5,7,8]) (.seq (.region [⟨some 11,none,.mv (.t 1)⟩,⟨some 12,none,.mv (.t 0)⟩,⟨some 13,none,.mv (.t 5)⟩,⟨some 14,none,.ia 4 (.t 12) (.t 13)⟩,⟨some 15,none,.ld (some 4) (.t 14)⟩,⟨some 16,none,.call (.t 11) [.t 15]⟩] [0,1,5,7,8,16]) (.cond (.t 16) (.seq (.region [⟨some 17,none,.mv (.t 5)⟩,⟨some 4,none,.mv (.t 17)⟩] [4]) (.ret)) (.skip))))) (.region [⟨some 18,none,.bin .add (.t 8) (.c (.d true (.int .i64 1)))⟩,⟨some 8,none,.mv (.t 18)⟩] [0,1,7,8]))))))) (.seq (.region [⟨some 4,none,.mv (.c (.d true (.int .i64 (-1))))⟩] [4]) (.ret)))
theorem ok75 : FnOk Try.prog Try.f75 19 keep75 ac75 [.t 4]:=by
  refine ⟨?_,?_,?_,?_,?_⟩ <;> kernel_rfl

/-! spec.l1Kids -/
def keep76 : Nat → List Nat
  | 0 => [0]
  | 1 => [3]
  | 2 => [3,4]
  | 3 => [3,4]
  | 4 => [2]
  | 5 => [3,7]
  | 6 => [3,7]
  | 7 => [2]
  | 8 => [3,10]
  | 9 => [3,10]
  | 10 => [3,10]
  | 11 => [10]
  | 12 => [2]
  | 13 => [2]
  | _ => []
def ac76 : AC:=.seq (.region [⟨some 2,none,.mv (.c (.d true (.int .i64 0)))⟩] [0]) (.seq (.seq (.region [⟨some 3,none,.mv (.t 0)⟩] [3]) (.block 0 (.seq (.seq (.region [⟨some 5,none,.bin .eql (.t 3) (.c (.d true (.int .i64 1)))⟩,⟨some 4,none,.mv (.t 5)⟩] [3,4]) (.cond (.t 4) (.skip) (.region [⟨some 6,none,.bin .eql (.t 3) (.c (.d true (.int .i64 2)))⟩,⟨some 4,none,.mv (.t 6)⟩] [3,4]))) (.cond (.t 4) (.seq (.region [⟨some 2,none,.mv (.c (.d true (.int .i64 0)))⟩] [2]) (.ret)) (.seq (.seq (.region [⟨some 8,none,.bin .eql (.t 3) (.c (.d true (.int .i64 4)))⟩,⟨some 7,none,.mv (.t 8)⟩] [3,7]) (.cond (.t 7) (.skip) (.region [⟨some 9,none,.bin .eql (.t 3) (.c (.d true (.int .i64 6)))⟩,⟨some 7,none,.mv (.t 9)⟩] [3,7]))) (.cond (.t 7) (.seq (.region [⟨some 2,none,.mv (.c (.d true (.int .i64 1)))⟩] [2]) (.ret)) (.seq (.seq (.region [⟨some 11,none,.bin .eql (.t 3) (.c (.d true (.int .i64 3)))⟩,⟨some 10,none,.mv (.t 11)⟩] [3,10]) (.cond (.t 10) (.skip) (.seq (.region [⟨some 12,none,.bin .eql (.t 3) (.c (.d true (.int .i64 5)))⟩,⟨some 10,none,.mv (.t 12)⟩] [3,10]) (.cond (.t 10) (.skip) (.seq (.region [⟨some 13,none,.bin .eql (.t 3) (.c (.d true (.int .i64 7)))⟩,⟨some 10,none,.mv (.t 13)⟩] [3,10]) (.cond (.t 10) (.skip) (.region [⟨some 14,none,.bin .eql (.t 3) (.c (.d true (.int .i64 8)))⟩,⟨some 10,none,.mv (.t 14)⟩] [10]))))))) (.cond (.t 10) (.seq (.region [⟨some 2,none,.mv (.c (.d true (.int .i64 2)))⟩] [2]) (.ret)) (.skip))))))))) (.seq (.region [⟨some 2,none,.mv (.c (.d true (.int .i64 (-1))))⟩] [2]) (.ret)))
theorem ok76 : FnOk Try.prog Try.f76 15 keep76 ac76 [.t 2]:=by
  refine ⟨?_,?_,?_,?_,?_⟩ <;> kernel_rfl

/-! spec.l1In -/
def keep77 : Nat → List Nat
  | 0 => [0,1,2]
  | 1 => [6]
  | _ => []
def ac77 : AC:=.seq (.region [⟨some 6,none,.mv (.c (.d true (.bool false)))⟩] [0,1,2]) (.seq (.region [⟨some 7,none,.mv (.t 0)⟩,⟨some 8,none,.mv (.t 1)⟩,⟨some 9,none,.bin .geq (.t 7) (.t 8)⟩,⟨some 10,none,.mv (.t 9)⟩,⟨some 11,some (10,true),.mv (.t 0)⟩,⟨some 12,some (10,true),.mv (.t 2)⟩,⟨some 13,some (10,true),.bin .leq (.t 11) (.t 12)⟩,⟨some 14,none,.pick (.t 10) (.t 13) (.c (.d true (.bool false)))⟩,⟨some 6,none,.mv (.t 14)⟩] [6]) (.ret))
theorem ok77 : FnOk Try.prog Try.f77 15 keep77 ac77 [.t 6]:=by
  refine ⟨?_,?_,?_,?_,?_⟩ <;> kernel_rfl

/-! impl.hasTerm$1 -/
/-! spec.l3Num -/
def keep79 : Nat → List Nat
  | 0 => [0,2]
  | 1 => [2]
  | _ => []
def ac79 : AC:=.seq (.region [⟨some 2,none,.alloc [.d true (.int .i64 0),.d true (.int .i64 0),.d true (.str ⟨#[]⟩),.nil]⟩] [0,2]) (.seq (.region [⟨some 3,none,.mv (.t 0)⟩,⟨some 4,none,.call (.c (.fn 80 [])) [.t 3]⟩,⟨some 5,none,.bld [.d true (.int .i64 0),.d true (.int .i64 0),.d true (.str ⟨#[]⟩),.nil] [(0,1,.c (.d true (.int .i64 2))),(2,1,.t 4)]⟩,⟨none,none,.st 4 (.t 2) (.t 5)⟩] [2]) (.ret))
theorem ok79 : FnOk Try.prog Try.f79 6 keep79 ac79 [.c 2 (some 4)]:=by
  refine ⟨?_,?_,?_,?_,?_⟩ <;> kernel_rfl

/-! spec.l1Digits -/
def keep80 : Nat → List Nat
  | 0 => [0]
  | 1 => [0,7]
  | 2 => [2]
  | 3 => [0,3]
  | 4 => [0,3,4]
  | 5 => [0,3,4,11]
  | 6 => [0,3,4,5]
  | 7 => [0,3,4,5,15]
  | 8 => [0,3,4,5]
  | 9 => [0,3,4]
  | 10 => [0,3,4]
  | 11 => [4,27]
  | 12 => [2]
  | 13 => [2]
  | _ => []
def ac80 : AC:=.seq (.region [⟨some 2,none,.mv (.c (.d true (.str ⟨#[]⟩)))⟩] [0]) (.seq (.seq (.region [⟨some 6,none,.mv (.t 0)⟩,⟨some 7,none,.bin .eql (.t 6) (.c (.d true (.int .i64 0)))⟩] [0,7]) (.cond (.t 7) (.seq (.region [⟨some 2,none,.mv (.c (.d true (.str ⟨#[48]⟩)))⟩] [2]) (.ret)) (.skip))) (.seq (.region [⟨some 8,none,.mv (.t 0)⟩,⟨some 9,none,.bin .lss (.t 8) (.c (.d true (.int .i64 0)))⟩,⟨some 3,none,.mv (.t 9)⟩] [0,3]) (.seq (.region [⟨some 4,none,.mv (.c (.d true (.str ⟨#[]⟩)))⟩] [0,3,4]) (.seq (.block 0 (.loop (.seq (.seq (.region [⟨some 10,none,.mv (.t 0)⟩,⟨some 11,none,.bin .neq (.t 10) (.c (.d true (.int .i64 0)))⟩] [0,3,4,11]) (.cond (.t 11) (.skip) (.exit 0))) (.block 1 (.seq (.region [⟨some 12,none,.mv (.t 0)⟩,⟨some 13,none,.bin .rem (.t 12) (.c (.d true (.int .i64 10)))⟩,⟨some 5,none,.mv (.t 13)⟩] [0,3,4,5]) (.seq (.seq (.region [⟨some 14,none,.mv (.t 5)⟩,⟨some 15,none,.bin .lss (.t 14) (.c (.d true (.int .i64 0)))⟩] [0,3,4,5,15]) (.cond (.t 15) (.region [⟨some 16,none,.mv (.t 5)⟩,⟨some 17,none,.bin .sub (.c (.d true (.int .i64 0))) (.t 16)⟩,⟨some 5,none,.mv (.t 17)⟩] [0,3,4,5]) (.skip))) (.seq (.region [⟨some 18,none,.mv (.t 5)⟩,⟨some 19,none,.bin .add (.c (.d true (.int .i64 48))) (.t 18)⟩,⟨some 20,none,.cvi .u8 (.t 19)⟩,⟨some 21,none,.bs 5 1 [.t 20]⟩,⟨some 22,none,.bstr (.t 21)⟩,⟨some 23,none,.mv (.t 4)⟩,⟨some 24,none,.bin .add (.t 22) (.t 23)⟩,⟨some 4,none,.mv (.t 24)⟩] [0,3,4]) (.region [⟨some 25,none,.mv (.t 0)⟩,⟨some 26,none,.bin .quo (.t 25) (.c (.d true (.int .i64 10)))⟩,⟨some 0,none,.mv (.t 26)⟩] [0,3,4])))))))) (.seq (.seq (.region [⟨some 27,none,.mv (.t 3)⟩] [4,27]) (.cond (.t 27) (.seq (.region [⟨some 28,none,.mv (.t 4)⟩,⟨some 29,none,.bin .add (.c (.d true (.str ⟨#[45]⟩))) (.t 28)⟩,⟨some 2,none,.mv (.t 29)⟩] [2]) (.ret)) (.skip))) (.seq (.region [⟨some 30,none,.mv (.t 4)⟩,⟨some 2,none,.mv (.t 30)⟩] [2]) (.ret)))))))
theorem ok80 : FnOk Try.prog Try.f80 31 keep80 ac80 [.t 2]:=by
  refine ⟨?_,?_,?_,?_,?_⟩ <;> kernel_rfl

end Go.Proofs.Ytlddcimpdkcgeaa
