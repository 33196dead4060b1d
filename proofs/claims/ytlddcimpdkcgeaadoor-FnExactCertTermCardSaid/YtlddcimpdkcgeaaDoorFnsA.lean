/- Functions, as code over abstract states. -/
import Derived.Test.YtlddcimpdkcgeaaDoorS12
import Derived.Test.YtlddcimpdkcgeaaDoorProg
set_option linter.unusedVariables false
set_option linter.unusedSimpArgs false
set_option maxRecDepth 100000
namespace Go.Proofs.YtlddcimpdkcgeaaDoor
open Go.RowKit Sym

theorem mo : Tryd.prog.follows .mixedOrders = true:=by kernel_rfl
/-! laws.FnHidden -/
/-! laws.FnHosts -/
/-! laws.FnSeals -/
/-! laws.FnTerms -/
/-! laws.FnExactPolicyText -/
/-! laws.FnExactCertTerm -/
def keep8 : Nat → List Nat
  | 0 => [1]
  | 1 => [1,3]
  | 2 => [1,3]
  | 3 => [1,15]
  | 4 => [2]
  | 5 => [1,4]
  | 6 => [1,4,5]
  | 7 => [1,4,5,6]
  | 8 => [1,4,5,6,26]
  | 9 => [2]
  | 10 => [1,4,5,6,31]
  | 11 => [2]
  | 12 => [1,4,5,6,7]
  | 13 => [1,4,6,7]
  | 14 => [1,4,6,42]
  | 15 => [2]
  | 16 => [1,4,6,8]
  | 17 => [1,4,6,8]
  | 18 => [1,4,6,8,9]
  | 19 => [1,4,6,8,9]
  | 20 => [1,4,6,8,9,50]
  | 21 => [2]
  | 22 => [1,4,6,8,53]
  | 23 => [2]
  | 24 => [4,6,8,10]
  | 25 => [6,8,60]
  | 26 => [2]
  | 27 => [6,8,9]
  | 28 => [8,9]
  | 29 => [8,9,65]
  | 30 => [2]
  | 31 => [68]
  | 32 => [2]
  | 33 => [2]
  | 1000010 => [1]
  | _ => []
def ac8 : AC:=.seq (.region [⟨some 1,none,.box (.t 0)⟩,⟨some 2,none,.mv (.c (.d true (.bool false)))⟩] [1]) (.seq (.region [⟨some 3,none,.mv (.c (.d true (.int .i64 1048576)))⟩] [1,3]) (.seq (.region [⟨some 11,none,.ld (some 6) (.t 1)⟩,⟨some 12,none,.mv (.t 3)⟩,⟨some 13,none,.call (.c (.fn 66 [])) [.t 11,.t 12]⟩,⟨some 3,none,.mv (.t 13)⟩] [1,3]) (.seq (.seq (.region [⟨some 14,none,.mv (.t 3)⟩,⟨some 15,none,.bin .lss (.t 14) (.c (.d true (.int .i64 0)))⟩] [1,15]) (.cond (.t 15) (.seq (.region [⟨some 2,none,.mv (.c (.d true (.bool true)))⟩] [2]) (.ret)) (.skip))) (.seq (.region [⟨some 16,none,.ld (some 6) (.t 1)⟩,⟨some 17,none,.call (.c (.fn 68 [])) [.t 16]⟩,⟨some 18,none,.call (.c (.fn 67 [])) [.t 17]⟩,⟨some 4,none,.alloc [.d true (.int .i64 0),.d true (.int .i64 0),.d true (.str ⟨#[]⟩),.nil]⟩,⟨none,none,.st 4 (.t 4) (.t 18)⟩] [1,4]) (.seq (.region [⟨some 19,none,.ld (some 6) (.t 1)⟩,⟨some 20,none,.call (.c (.fn 68 [])) [.t 19]⟩,⟨some 5,none,.alloc [.d true (.str ⟨#[]⟩),.d true (.int .i64 0),.d true (.int .i64 0),.d true (.str ⟨#[]⟩),.nil,.d true (.int .i64 0)]⟩,⟨none,none,.st 6 (.t 5) (.t 20)⟩] [1,4,5]) (.seq (.region [⟨some 21,none,.ld (some 6) (.t 5)⟩,⟨some 22,none,.call (.c (.fn 69 [])) [.t 21]⟩,⟨some 6,none,.alloc [.d true (.int .i64 0),.d true (.int .i64 0),.d true (.str ⟨#[]⟩),.nil]⟩,⟨none,none,.st 4 (.t 6) (.t 22)⟩] [1,4,5,6]) (.seq (.seq (.region [⟨some 23,none,.ld (some 4) (.t 6)⟩,⟨some 24,none,.ld (some 4) (.t 4)⟩,⟨some 25,none,.call (.c (.fn 70 [])) [.t 23,.t 24]⟩,⟨some 26,none,.not (.t 25)⟩] [1,4,5,6,26]) (.cond (.t 26) (.seq (.region [⟨some 2,none,.mv (.c (.d true (.bool false)))⟩] [2]) (.ret)) (.skip))) (.seq (.seq (.tree (.take ⟨some 27,none,.ld (some 6) (.t 5)⟩ (.take ⟨some 28,none,.ld (some 6) (.t 1)⟩ (.br (.cons ⟨some 29,none,.call (.c (.fn 68 [])) [.t 28]⟩ (.br (.cons ⟨some 30,none,.call (.c (.fn 71 [])) [.t 27,.t 29]⟩ (.take ⟨some 31,none,.not (.t 30)⟩ (.done)) (.nil))) (.nil))))) [1,4,5,6,31]) (.cond (.t 31) (.seq (.region [⟨some 2,none,.mv (.c (.d true (.bool false)))⟩] [2]) (.ret)) (.skip))) (.seq (.region [⟨some 7,none,.mv (.c (.d true (.int .i64 1)))⟩] [1,4,5,6,7]) (.seq (.region [⟨some 32,none,.ld (some 6) (.t 5)⟩,⟨some 33,none,.mv (.t 7)⟩,⟨some 34,none,.call (.c (.fn 72 [])) [.t 32,.t 33]⟩,⟨some 7,none,.mv (.t 34)⟩] [1,4,6,7]) (.seq (.seq (.region [⟨some 35,none,.mv (.t 7)⟩,⟨some 36,none,.bin .lss (.t 35) (.c (.d true (.int .i64 0)))⟩,⟨some 37,none,.mv (.t 36)⟩,⟨some 38,some (37,false),.ld (some 4) (.t 6)⟩,⟨some 39,some (37,false),.ld (some 4) (.t 4)⟩,⟨some 40,some (37,false),.call (.c (.fn 70 [])) [.t 38,.t 39]⟩,⟨some 41,some (37,false),.not (.t 40)⟩,⟨some 42,none,.pick (.t 37) (.c (.d true (.bool true))) (.t 41)⟩] [1,4,6,42]) (.cond (.t 42) (.seq (.region [⟨some 2,none,.mv (.c (.d true (.bool false)))⟩] [2]) (.ret)) (.skip))) (.seq (.region [⟨some 8,none,.mv (.c (.d true (.int .i64 1)))⟩] [1,4,6,8]) (.seq (.region [⟨some 43,none,.ld (some 4) (.t 6)⟩,⟨some 44,none,.mv (.t 8)⟩,⟨some 45,none,.call (.c (.fn 73 [])) [.t 43,.t 44]⟩,⟨some 8,none,.mv (.t 45)⟩] [1,4,6,8]) (.seq (.region [⟨some 9,none,.mv (.c (.d true (.int .i64 1)))⟩] [1,4,6,8,9]) (.seq (.region [⟨some 46,none,.ld (some 4) (.t 6)⟩,⟨some 47,none,.mv (.t 9)⟩,⟨some 48,none,.call (.c (.fn 74 [])) [.t 46,.t 47]⟩,⟨some 9,none,.mv (.t 48)⟩] [1,4,6,8,9]) (.seq (.seq (.region [⟨some 49,none,.mv (.t 9)⟩,⟨some 50,none,.bin .lss (.t 49) (.c (.d true (.int .i64 0)))⟩] [1,4,6,8,9,50]) (.cond (.t 50) (.seq (.region [⟨some 2,none,.mv (.c (.d true (.bool false)))⟩] [2]) (.ret)) (.skip))) (.seq (.seq (.region [⟨some 51,none,.mv (.t 9)⟩,⟨some 52,none,.mv (.t 8)⟩,⟨some 53,none,.bin .neq (.t 51) (.t 52)⟩] [1,4,6,8,53]) (.cond (.t 53) (.seq (.region [⟨some 2,none,.mv (.c (.d true (.bool false)))⟩] [2]) (.ret)) (.skip))) (.seq (.region [⟨some 54,none,.ld (some 6) (.t 1)⟩,⟨some 55,none,.call (.c (.fn 68 [])) [.t 54]⟩,⟨some 56,none,.call (.c (.fn 69 [])) [.t 55]⟩,⟨some 10,none,.alloc [.d true (.int .i64 0),.d true (.int .i64 0),.d true (.str ⟨#[]⟩),.nil]⟩,⟨none,none,.st 4 (.t 10) (.t 56)⟩] [4,6,8,10]) (.seq (.seq (.region [⟨some 57,none,.ld (some 4) (.t 10)⟩,⟨some 58,none,.ld (some 4) (.t 4)⟩,⟨some 59,none,.call (.c (.fn 70 [])) [.t 57,.t 58]⟩,⟨some 60,none,.not (.t 59)⟩] [6,8,60]) (.cond (.t 60) (.seq (.region [⟨some 2,none,.mv (.c (.d true (.bool false)))⟩] [2]) (.ret)) (.skip))) (.seq (.region [⟨some 9,none,.mv (.c (.d true (.int .i64 1)))⟩] [6,8,9]) (.seq (.region [⟨some 61,none,.ld (some 4) (.t 6)⟩,⟨some 62,none,.mv (.t 9)⟩,⟨some 63,none,.call (.c (.fn 74 [])) [.t 61,.t 62]⟩,⟨some 9,none,.mv (.t 63)⟩] [8,9]) (.seq (.seq (.region [⟨some 64,none,.mv (.t 9)⟩,⟨some 65,none,.bin .lss (.t 64) (.c (.d true (.int .i64 0)))⟩] [8,9,65]) (.cond (.t 65) (.seq (.region [⟨some 2,none,.mv (.c (.d true (.bool false)))⟩] [2]) (.ret)) (.skip))) (.seq (.seq (.region [⟨some 66,none,.mv (.t 9)⟩,⟨some 67,none,.mv (.t 8)⟩,⟨some 68,none,.bin .neq (.t 66) (.t 67)⟩] [68]) (.cond (.t 68) (.seq (.region [⟨some 2,none,.mv (.c (.d true (.bool false)))⟩] [2]) (.ret)) (.skip))) (.seq (.region [⟨some 2,none,.mv (.c (.d true (.bool true)))⟩] [2]) (.ret)))))))))))))))))))))))))
theorem ok8 : FnOk Tryd.prog Tryd.f8 69 keep8 ac8 [.t 2]:=by
  refine ⟨?_,?_,?_,?_,?_⟩ <;> kernel_rfl

/-! laws.big -/
/-! spec.DrawParts -/
/-! laws.has -/
/-! impl.Atom -/
def keep12 : Nat → List Nat
  | 0 => [0,2]
  | 1 => [2]
  | _ => []
def ac12 : AC:=.seq (.region [⟨some 2,none,.alloc [.d true (.int .i64 0),.d true (.int .i64 0),.d true (.str ⟨#[]⟩),.nil]⟩] [0,2]) (.seq (.region [⟨some 3,none,.mv (.t 0)⟩,⟨some 4,none,.bld [.d true (.int .i64 0),.d true (.int .i64 0),.d true (.str ⟨#[]⟩),.nil] [(0,1,.c (.d true (.int .i64 1))),(1,1,.t 3)]⟩,⟨some 5,none,.call (.c (.fn 77 [])) [.t 4]⟩,⟨none,none,.st 4 (.t 2) (.t 5)⟩] [2]) (.ret))
theorem ok12 : FnOk Tryd.prog Tryd.f12 6 keep12 ac12 [.c 2 (some 4)]:=by
  refine ⟨?_,?_,?_,?_,?_⟩ <;> kernel_rfl

/-! impl.Parts -/
/-! spec.Parts -/
/-! impl.Agree -/
/-! impl.Pub -/
/-! impl.Seal -/
/-! impl.KeyOf -/
/-! impl.Can -/
/-! spec.DrawFits -/
/-! spec.DrawHostOk -/
/-! spec.DrawPatternOk -/
/-! spec.DrawLabels -/
/-! impl.Fits -/
/-! spec.Fits -/
/-! impl.HostOk -/
def keep26 : Nat → List Nat
  | 0 => [0]
  | 1 => [2]
  | _ => []
def ac26 : AC:=.seq (.region [⟨some 2,none,.mv (.c (.d true (.bool false)))⟩] [0]) (.seq (.region [⟨some 3,none,.mv (.t 0)⟩,⟨some 4,none,.call (.c (.fn 92 [])) [.t 3,.c (.d true (.int .i64 2))]⟩,⟨some 2,none,.mv (.t 4)⟩] [2]) (.ret))
theorem ok26 : FnOk Tryd.prog Tryd.f26 5 keep26 ac26 [.t 2]:=by
  refine ⟨?_,?_,?_,?_,?_⟩ <;> kernel_rfl

/-! spec.HostOk -/
def keep27 : Nat → List Nat
  | 0 => [0]
  | 1 => [2]
  | _ => []
def ac27 : AC:=.seq (.region [⟨some 2,none,.mv (.c (.d true (.bool false)))⟩] [0]) (.seq (.region [⟨some 3,none,.mv (.t 0)⟩,⟨some 4,none,.call (.c (.fn 93 [])) [.t 3,.c (.d true (.int .i64 2))]⟩,⟨some 2,none,.mv (.t 4)⟩] [2]) (.ret))
theorem ok27 : FnOk Tryd.prog Tryd.f27 5 keep27 ac27 [.t 2]:=by
  refine ⟨?_,?_,?_,?_,?_⟩ <;> kernel_rfl

/-! impl.PatternOk -/
/-! spec.PatternOk -/
/-! laws.sameTexts -/
/-! impl.Labels -/
def keep31 : Nat → List Nat
  | 0 => [0]
  | 1 => [2]
  | _ => []
def ac31 : AC:=.seq (.region [⟨some 2,none,.own 9 1⟩] [0]) (.seq (.region [⟨some 3,none,.mv (.t 0)⟩,⟨some 4,none,.call (.c (.fn 94 [])) [.t 3,.c (.d true (.str ⟨#[46]⟩))]⟩,⟨some 2,none,.mv (.t 4)⟩] [2]) (.ret))
theorem ok31 : FnOk Tryd.prog Tryd.f31 5 keep31 ac31 [.t 2]:=by
  refine ⟨?_,?_,?_,?_,?_⟩ <;> kernel_rfl

/-! spec.Labels -/
def keep32 : Nat → List Nat
  | 0 => [0]
  | 1 => [0,3]
  | 2 => [0,3,4]
  | 3 => [0,3,4,5]
  | 4 => [0,3,4,5,10]
  | 5 => [0,3,4,5]
  | 6 => [0,3,4,5,22]
  | 7 => [0,3,5]
  | 8 => [0,3,4,5]
  | 9 => [2]
  | _ => []
def ac32 : AC:=.seq (.region [⟨some 2,none,.own 9 1⟩] [0]) (.seq (.region [⟨some 6,none,.bs 9 1 []⟩,⟨some 3,none,.mv (.t 6)⟩] [0,3]) (.seq (.region [⟨some 4,none,.mv (.c (.d true (.int .i64 0)))⟩] [0,3,4]) (.seq (.seq (.region [⟨some 5,none,.mv (.c (.d true (.int .i64 0)))⟩] [0,3,4,5]) (.block 0 (.loop (.seq (.seq (.region [⟨some 7,none,.mv (.t 5)⟩,⟨some 8,none,.mv (.t 0)⟩,⟨some 9,none,.slen (.t 8)⟩,⟨some 10,none,.bin .leq (.t 7) (.t 9)⟩] [0,3,4,5,10]) (.cond (.t 10) (.skip) (.exit 0))) (.seq (.block 1 (.seq (.region [⟨some 13,none,.mv (.t 5)⟩,⟨some 14,none,.mv (.t 0)⟩,⟨some 15,none,.slen (.t 14)⟩,⟨some 16,none,.bin .eql (.t 13) (.t 15)⟩,⟨some 17,none,.mv (.t 16)⟩,⟨some 18,some (17,false),.mv (.t 0)⟩,⟨some 19,some (17,false),.mv (.t 5)⟩,⟨some 20,some (17,false),.ix (.t 18) (.t 19)⟩,⟨some 21,some (17,false),.bin .eql (.t 20) (.c (.d true (.int .u8 46)))⟩,⟨some 22,none,.pick (.t 17) (.c (.d true (.bool true))) (.t 21)⟩] [0,3,4,5,22]) (.cond (.t 22) (.seq (.region [⟨some 23,none,.mv (.t 3)⟩,⟨some 24,none,.mv (.t 0)⟩,⟨some 25,none,.mv (.t 4)⟩,⟨some 26,none,.mv (.t 5)⟩,⟨some 27,none,.sls (.t 24) (some (.t 25)) (some (.t 26))⟩,⟨some 28,none,.bs 9 1 [.t 27]⟩,⟨some 29,none,.app 9 1 16 (.t 23) (.t 28)⟩,⟨some 3,none,.mv (.t 29)⟩] [0,3,5]) (.region [⟨some 30,none,.mv (.t 5)⟩,⟨some 31,none,.bin .add (.t 30) (.c (.d true (.int .i64 1)))⟩,⟨some 4,none,.mv (.t 31)⟩] [0,3,4,5])) (.skip)))) (.region [⟨some 11,none,.mv (.t 5)⟩,⟨some 12,none,.bin .add (.t 11) (.c (.d true (.int .i64 1)))⟩,⟨some 5,none,.mv (.t 12)⟩] [0,3,4,5])))))) (.seq (.region [⟨some 32,none,.mv (.t 3)⟩,⟨some 2,none,.mv (.t 32)⟩] [2]) (.ret)))))
theorem ok32 : FnOk Tryd.prog Tryd.f32 33 keep32 ac32 [.t 2]:=by
  refine ⟨?_,?_,?_,?_,?_⟩ <;> kernel_rfl

/-! spec.DrawSeal -/
/-! spec.DrawOpen -/
/-! impl.Open -/
/-! spec.Open -/
/-! spec.DrawSigned -/
/-! impl.Signed -/
/-! spec.Signed -/
/-! spec.DrawSign -/
/-! spec.DrawKeyOf -/
/-! impl.Same -/
def keep42 : Nat → List Nat
  | 0 => [2,3]
  | 1 => [4]
  | _ => []
def ac42 : AC:=.seq (.region [⟨some 2,none,.box (.t 0)⟩,⟨some 3,none,.box (.t 1)⟩,⟨some 4,none,.mv (.c (.d true (.bool false)))⟩] [2,3]) (.seq (.region [⟨some 5,none,.fa 0 (.t 2)⟩,⟨some 6,none,.ld none (.t 5)⟩,⟨some 7,none,.fa 0 (.t 3)⟩,⟨some 8,none,.ld none (.t 7)⟩,⟨some 9,none,.bin .eql (.t 6) (.t 8)⟩,⟨some 10,none,.mv (.t 9)⟩,⟨some 11,some (10,true),.fa 1 (.t 2)⟩,⟨some 12,some (10,true),.ld none (.t 11)⟩,⟨some 13,some (10,true),.fa 1 (.t 3)⟩,⟨some 14,some (10,true),.ld none (.t 13)⟩,⟨some 15,some (10,true),.bin .eql (.t 12) (.t 14)⟩,⟨some 16,none,.pick (.t 10) (.t 15) (.c (.d true (.bool false)))⟩,⟨some 17,none,.mv (.t 16)⟩,⟨some 18,some (17,true),.fa 2 (.t 2)⟩,⟨some 19,some (17,true),.ld none (.t 18)⟩,⟨some 20,some (17,true),.fa 2 (.t 3)⟩,⟨some 21,some (17,true),.ld none (.t 20)⟩,⟨some 22,some (17,true),.bin .eql (.t 19) (.t 21)⟩,⟨some 23,none,.pick (.t 17) (.t 22) (.c (.d true (.bool false)))⟩,⟨some 24,none,.mv (.t 23)⟩,⟨some 25,some (24,true),.fa 3 (.t 2)⟩,⟨some 26,some (24,true),.ld none (.t 25)⟩,⟨some 27,some (24,true),.fa 3 (.t 3)⟩,⟨some 28,some (24,true),.ld none (.t 27)⟩,⟨some 29,some (24,true),.call (.c (.fn 105 [])) [.t 26,.t 28,.c (.fn 42 [])]⟩,⟨some 30,none,.pick (.t 24) (.t 29) (.c (.d true (.bool false)))⟩,⟨some 4,none,.mv (.t 30)⟩] [4]) (.ret))
theorem ok42 : FnOk Tryd.prog Tryd.f42 31 keep42 ac42 [.t 4]:=by
  refine ⟨?_,?_,?_,?_,?_⟩ <;> kernel_rfl

/-! spec.Seal -/
/-! impl.Sign -/
def keep44 : Nat → List Nat
  | 0 => [2,3,4]
  | 1 => [4]
  | _ => []
def ac44 : AC:=.seq (.region [⟨some 2,none,.box (.t 0)⟩,⟨some 3,none,.box (.t 1)⟩,⟨some 4,none,.alloc [.d true (.int .i64 0),.d true (.int .i64 0),.d true (.str ⟨#[]⟩),.nil]⟩] [2,3,4]) (.seq (.region [⟨some 5,none,.ld (some 4) (.t 2)⟩,⟨some 6,none,.ld (some 4) (.t 3)⟩,⟨some 7,none,.bs 28 4 [.t 5,.t 6]⟩,⟨some 8,none,.bld [.d true (.int .i64 0),.d true (.int .i64 0),.d true (.str ⟨#[]⟩),.nil] [(0,1,.c (.d true (.int .i64 8))),(3,1,.t 7)]⟩,⟨some 9,none,.call (.c (.fn 77 [])) [.t 8]⟩,⟨none,none,.st 4 (.t 4) (.t 9)⟩] [4]) (.ret))
theorem ok44 : FnOk Tryd.prog Tryd.f44 10 keep44 ac44 [.c 4 (some 4)]:=by
  refine ⟨?_,?_,?_,?_,?_⟩ <;> kernel_rfl

/-! spec.Sign -/
def keep45 : Nat → List Nat
  | 0 => [2,3,4]
  | 1 => [4]
  | _ => []
def ac45 : AC:=.seq (.region [⟨some 2,none,.box (.t 0)⟩,⟨some 3,none,.box (.t 1)⟩,⟨some 4,none,.alloc [.d true (.int .i64 0),.d true (.int .i64 0),.d true (.str ⟨#[]⟩),.nil]⟩] [2,3,4]) (.seq (.region [⟨some 5,none,.ld (some 4) (.t 2)⟩,⟨some 6,none,.ld (some 4) (.t 3)⟩,⟨some 7,none,.call (.c (.fn 106 [])) [.c (.d true (.int .i64 8)),.t 5,.t 6]⟩,⟨none,none,.st 4 (.t 4) (.t 7)⟩] [4]) (.ret))
theorem ok45 : FnOk Tryd.prog Tryd.f45 8 keep45 ac45 [.c 4 (some 4)]:=by
  refine ⟨?_,?_,?_,?_,?_⟩ <;> kernel_rfl

/-! spec.KeyOf -/
/-! spec.DrawBefore -/
/-! spec.DrawSame -/
/-! spec.DrawTermOk -/
/-! spec.DrawTermSize -/
/-! spec.DrawTermText -/
/-! impl.Before -/
def keep52 : Nat → List Nat
  | 0 => [2,3]
  | 1 => [2,3,7]
  | 2 => [4]
  | 3 => [2,3,18]
  | 4 => [4]
  | 5 => [2,3,29]
  | 6 => [4]
  | 7 => [2,3,40]
  | 8 => [4]
  | 9 => [3,56,57,58]
  | 10 => [3,56,57,58,59]
  | 11 => [3,5,6,56,57,58]
  | 12 => [3,5,6,56,57,58,70]
  | 13 => [4]
  | 14 => [3,56,57,58]
  | 15 => [4]
  | _ => []
def ac52 : AC:=.seq (.region [⟨some 2,none,.box (.t 0)⟩,⟨some 3,none,.box (.t 1)⟩,⟨some 4,none,.mv (.c (.d true (.bool false)))⟩] [2,3]) (.seq (.block 0 (.seq (.region [⟨some 8,none,.fa 0 (.t 2)⟩,⟨some 9,none,.ld none (.t 8)⟩,⟨some 10,none,.fa 0 (.t 3)⟩,⟨some 11,none,.ld none (.t 10)⟩,⟨some 12,none,.bin .neq (.t 9) (.t 11)⟩,⟨some 7,none,.mv (.t 12)⟩] [2,3,7]) (.cond (.t 7) (.seq (.region [⟨some 13,none,.fa 0 (.t 2)⟩,⟨some 14,none,.ld none (.t 13)⟩,⟨some 15,none,.fa 0 (.t 3)⟩,⟨some 16,none,.ld none (.t 15)⟩,⟨some 17,none,.bin .lss (.t 14) (.t 16)⟩,⟨some 4,none,.mv (.t 17)⟩] [4]) (.ret)) (.seq (.region [⟨some 19,none,.fa 1 (.t 2)⟩,⟨some 20,none,.ld none (.t 19)⟩,⟨some 21,none,.fa 1 (.t 3)⟩,⟨some 22,none,.ld none (.t 21)⟩,⟨some 23,none,.bin .neq (.t 20) (.t 22)⟩,⟨some 18,none,.mv (.t 23)⟩] [2,3,18]) (.cond (.t 18) (.seq (.region [⟨some 24,none,.fa 1 (.t 2)⟩,⟨some 25,none,.ld none (.t 24)⟩,⟨some 26,none,.fa 1 (.t 3)⟩,⟨some 27,none,.ld none (.t 26)⟩,⟨some 28,none,.bin .lss (.t 25) (.t 27)⟩,⟨some 4,none,.mv (.t 28)⟩] [4]) (.ret)) (.seq (.region [⟨some 30,none,.fa 2 (.t 2)⟩,⟨some 31,none,.ld none (.t 30)⟩,⟨some 32,none,.fa 2 (.t 3)⟩,⟨some 33,none,.ld none (.t 32)⟩,⟨some 34,none,.bin .neq (.t 31) (.t 33)⟩,⟨some 29,none,.mv (.t 34)⟩] [2,3,29]) (.cond (.t 29) (.seq (.region [⟨some 35,none,.fa 2 (.t 2)⟩,⟨some 36,none,.ld none (.t 35)⟩,⟨some 37,none,.fa 2 (.t 3)⟩,⟨some 38,none,.ld none (.t 37)⟩,⟨some 39,none,.bin .lss (.t 36) (.t 38)⟩,⟨some 4,none,.mv (.t 39)⟩] [4]) (.ret)) (.seq (.region [⟨some 41,none,.fa 3 (.t 2)⟩,⟨some 42,none,.ld none (.t 41)⟩,⟨some 43,none,.len (.t 42)⟩,⟨some 44,none,.fa 3 (.t 3)⟩,⟨some 45,none,.ld none (.t 44)⟩,⟨some 46,none,.len (.t 45)⟩,⟨some 47,none,.bin .neq (.t 43) (.t 46)⟩,⟨some 40,none,.mv (.t 47)⟩] [2,3,40]) (.cond (.t 40) (.seq (.region [⟨some 48,none,.fa 3 (.t 2)⟩,⟨some 49,none,.ld none (.t 48)⟩,⟨some 50,none,.len (.t 49)⟩,⟨some 51,none,.fa 3 (.t 3)⟩,⟨some 52,none,.ld none (.t 51)⟩,⟨some 53,none,.len (.t 52)⟩,⟨some 54,none,.bin .lss (.t 50) (.t 53)⟩,⟨some 4,none,.mv (.t 54)⟩] [4]) (.ret)) (.skip)))))))))) (.seq (.seq (.region [⟨some 55,none,.fa 3 (.t 2)⟩,⟨some 56,none,.ld none (.t 55)⟩,⟨some 57,none,.len (.t 56)⟩,⟨some 58,none,.mv (.c (.d true (.int .i64 0)))⟩] [3,56,57,58]) (.block 1 (.loop (.seq (.region [⟨some 59,none,.bin .lss (.t 58) (.t 57)⟩] [3,56,57,58,59]) (.seq (.cond (.t 59) (.skip) (.exit 1)) (.seq (.block 2 (.seq (.region [⟨some 60,none,.mv (.t 58)⟩,⟨some 61,none,.ia 4 (.t 56) (.t 58)⟩,⟨some 62,none,.ld (some 4) (.t 61)⟩,⟨some 6,none,.alloc [.d true (.int .i64 0),.d true (.int .i64 0),.d true (.str ⟨#[]⟩),.nil]⟩,⟨some 5,none,.mv (.t 60)⟩,⟨none,none,.st 4 (.t 6) (.t 62)⟩] [3,5,6,56,57,58]) (.seq (.draw [⟨some 63,none,.ld (some 4) (.t 6)⟩,⟨some 64,none,.fa 3 (.t 3)⟩,⟨some 65,none,.ld none (.t 64)⟩,⟨some 66,none,.mv (.t 5)⟩,⟨some 67,none,.ia 4 (.t 65) (.t 66)⟩,⟨some 68,none,.ld (some 4) (.t 67)⟩,⟨some 69,none,.call (.c (.fn 42 [])) [.t 63,.t 68]⟩,⟨some 70,none,.not (.t 69)⟩] [3,5,6,56,57,58,70]) (.cond (.t 70) (.seq (.draw [⟨some 71,none,.ld (some 4) (.t 6)⟩,⟨some 72,none,.fa 3 (.t 3)⟩,⟨some 73,none,.ld none (.t 72)⟩,⟨some 74,none,.mv (.t 5)⟩,⟨some 75,none,.ia 4 (.t 73) (.t 74)⟩,⟨some 76,none,.ld (some 4) (.t 75)⟩,⟨some 77,none,.call (.c (.fn 52 [])) [.t 71,.t 76]⟩,⟨some 4,none,.mv (.t 77)⟩] [4]) (.ret)) (.skip))))) (.region [⟨some 78,none,.bin .add (.t 58) (.c (.d true (.int .i64 1)))⟩,⟨some 58,none,.mv (.t 78)⟩] [3,56,57,58]))))))) (.seq (.region [⟨some 4,none,.mv (.c (.d true (.bool false)))⟩] [4]) (.ret))))
theorem ok52 : FnOk Tryd.prog Tryd.f52 79 keep52 ac52 [.t 4]:=by
  refine ⟨?_,?_,?_,?_,?_⟩ <;> kernel_rfl

/-! spec.Before -/
def keep53 : Nat → List Nat
  | 0 => [2,3]
  | 1 => [2,3,6]
  | 2 => [4]
  | 3 => [2,3,17]
  | 4 => [4]
  | 5 => [2,3,28]
  | 6 => [4]
  | 7 => [2,3,39]
  | 8 => [4]
  | 9 => [2,3,5]
  | 10 => [2,3,5,58]
  | 11 => [2,3,5]
  | 12 => [2,3,5,72]
  | 13 => [4]
  | 14 => [4]
  | _ => []
def ac53 : AC:=.seq (.region [⟨some 2,none,.box (.t 0)⟩,⟨some 3,none,.box (.t 1)⟩,⟨some 4,none,.mv (.c (.d true (.bool false)))⟩] [2,3]) (.seq (.block 0 (.seq (.region [⟨some 7,none,.fa 0 (.t 2)⟩,⟨some 8,none,.ld none (.t 7)⟩,⟨some 9,none,.fa 0 (.t 3)⟩,⟨some 10,none,.ld none (.t 9)⟩,⟨some 11,none,.bin .neq (.t 8) (.t 10)⟩,⟨some 6,none,.mv (.t 11)⟩] [2,3,6]) (.cond (.t 6) (.seq (.region [⟨some 12,none,.fa 0 (.t 2)⟩,⟨some 13,none,.ld none (.t 12)⟩,⟨some 14,none,.fa 0 (.t 3)⟩,⟨some 15,none,.ld none (.t 14)⟩,⟨some 16,none,.bin .lss (.t 13) (.t 15)⟩,⟨some 4,none,.mv (.t 16)⟩] [4]) (.ret)) (.seq (.region [⟨some 18,none,.fa 1 (.t 2)⟩,⟨some 19,none,.ld none (.t 18)⟩,⟨some 20,none,.fa 1 (.t 3)⟩,⟨some 21,none,.ld none (.t 20)⟩,⟨some 22,none,.bin .neq (.t 19) (.t 21)⟩,⟨some 17,none,.mv (.t 22)⟩] [2,3,17]) (.cond (.t 17) (.seq (.region [⟨some 23,none,.fa 1 (.t 2)⟩,⟨some 24,none,.ld none (.t 23)⟩,⟨some 25,none,.fa 1 (.t 3)⟩,⟨some 26,none,.ld none (.t 25)⟩,⟨some 27,none,.bin .lss (.t 24) (.t 26)⟩,⟨some 4,none,.mv (.t 27)⟩] [4]) (.ret)) (.seq (.region [⟨some 29,none,.fa 2 (.t 2)⟩,⟨some 30,none,.ld none (.t 29)⟩,⟨some 31,none,.fa 2 (.t 3)⟩,⟨some 32,none,.ld none (.t 31)⟩,⟨some 33,none,.bin .neq (.t 30) (.t 32)⟩,⟨some 28,none,.mv (.t 33)⟩] [2,3,28]) (.cond (.t 28) (.seq (.region [⟨some 34,none,.fa 2 (.t 2)⟩,⟨some 35,none,.ld none (.t 34)⟩,⟨some 36,none,.fa 2 (.t 3)⟩,⟨some 37,none,.ld none (.t 36)⟩,⟨some 38,none,.bin .lss (.t 35) (.t 37)⟩,⟨some 4,none,.mv (.t 38)⟩] [4]) (.ret)) (.seq (.region [⟨some 40,none,.fa 3 (.t 2)⟩,⟨some 41,none,.ld none (.t 40)⟩,⟨some 42,none,.len (.t 41)⟩,⟨some 43,none,.fa 3 (.t 3)⟩,⟨some 44,none,.ld none (.t 43)⟩,⟨some 45,none,.len (.t 44)⟩,⟨some 46,none,.bin .neq (.t 42) (.t 45)⟩,⟨some 39,none,.mv (.t 46)⟩] [2,3,39]) (.cond (.t 39) (.seq (.region [⟨some 47,none,.fa 3 (.t 2)⟩,⟨some 48,none,.ld none (.t 47)⟩,⟨some 49,none,.len (.t 48)⟩,⟨some 50,none,.fa 3 (.t 3)⟩,⟨some 51,none,.ld none (.t 50)⟩,⟨some 52,none,.len (.t 51)⟩,⟨some 53,none,.bin .lss (.t 49) (.t 52)⟩,⟨some 4,none,.mv (.t 53)⟩] [4]) (.ret)) (.skip)))))))))) (.seq (.seq (.region [⟨some 5,none,.mv (.c (.d true (.int .i64 0)))⟩] [2,3,5]) (.block 1 (.loop (.seq (.seq (.region [⟨some 54,none,.mv (.t 5)⟩,⟨some 55,none,.fa 3 (.t 2)⟩,⟨some 56,none,.ld none (.t 55)⟩,⟨some 57,none,.len (.t 56)⟩,⟨some 58,none,.bin .lss (.t 54) (.t 57)⟩] [2,3,5,58]) (.cond (.t 58) (.skip) (.exit 1))) (.seq (.block 2 (.seq (.draw [⟨some 61,none,.fa 3 (.t 2)⟩,⟨some 62,none,.ld none (.t 61)⟩,⟨some 63,none,.mv (.t 5)⟩,⟨some 64,none,.ia 4 (.t 62) (.t 63)⟩,⟨some 65,none,.ld (some 4) (.t 64)⟩,⟨some 66,none,.fa 3 (.t 3)⟩,⟨some 67,none,.ld none (.t 66)⟩,⟨some 68,none,.mv (.t 5)⟩,⟨some 69,none,.ia 4 (.t 67) (.t 68)⟩,⟨some 70,none,.ld (some 4) (.t 69)⟩,⟨some 71,none,.call (.c (.fn 54 [])) [.t 65,.t 70]⟩,⟨some 72,none,.not (.t 71)⟩] [2,3,5,72]) (.cond (.t 72) (.seq (.draw [⟨some 73,none,.fa 3 (.t 2)⟩,⟨some 74,none,.ld none (.t 73)⟩,⟨some 75,none,.mv (.t 5)⟩,⟨some 76,none,.ia 4 (.t 74) (.t 75)⟩,⟨some 77,none,.ld (some 4) (.t 76)⟩,⟨some 78,none,.fa 3 (.t 3)⟩,⟨some 79,none,.ld none (.t 78)⟩,⟨some 80,none,.mv (.t 5)⟩,⟨some 81,none,.ia 4 (.t 79) (.t 80)⟩,⟨some 82,none,.ld (some 4) (.t 81)⟩,⟨some 83,none,.call (.c (.fn 53 [])) [.t 77,.t 82]⟩,⟨some 4,none,.mv (.t 83)⟩] [4]) (.ret)) (.skip)))) (.region [⟨some 59,none,.mv (.t 5)⟩,⟨some 60,none,.bin .add (.t 59) (.c (.d true (.int .i64 1)))⟩,⟨some 5,none,.mv (.t 60)⟩] [2,3,5])))))) (.seq (.region [⟨some 4,none,.mv (.c (.d true (.bool false)))⟩] [4]) (.ret))))
theorem ok53 : FnOk Tryd.prog Tryd.f53 84 keep53 ac53 [.t 4]:=by
  refine ⟨?_,?_,?_,?_,?_⟩ <;> kernel_rfl

/-! spec.Same -/
def keep54 : Nat → List Nat
  | 0 => [2,3]
  | 1 => [2,3,33]
  | 2 => [4]
  | 3 => [2,3,5]
  | 4 => [2,3,5,38]
  | 5 => [2,3,5]
  | 6 => [2,3,5,52]
  | 7 => [4]
  | 8 => [4]
  | _ => []
def ac54 : AC:=.seq (.region [⟨some 2,none,.box (.t 0)⟩,⟨some 3,none,.box (.t 1)⟩,⟨some 4,none,.mv (.c (.d true (.bool false)))⟩] [2,3]) (.seq (.seq (.region [⟨some 6,none,.fa 0 (.t 2)⟩,⟨some 7,none,.ld none (.t 6)⟩,⟨some 8,none,.fa 0 (.t 3)⟩,⟨some 9,none,.ld none (.t 8)⟩,⟨some 10,none,.bin .neq (.t 7) (.t 9)⟩,⟨some 11,none,.mv (.t 10)⟩,⟨some 12,some (11,false),.fa 1 (.t 2)⟩,⟨some 13,some (11,false),.ld none (.t 12)⟩,⟨some 14,some (11,false),.fa 1 (.t 3)⟩,⟨some 15,some (11,false),.ld none (.t 14)⟩,⟨some 16,some (11,false),.bin .neq (.t 13) (.t 15)⟩,⟨some 17,none,.pick (.t 11) (.c (.d true (.bool true))) (.t 16)⟩,⟨some 18,none,.mv (.t 17)⟩,⟨some 19,some (18,false),.fa 2 (.t 2)⟩,⟨some 20,some (18,false),.ld none (.t 19)⟩,⟨some 21,some (18,false),.fa 2 (.t 3)⟩,⟨some 22,some (18,false),.ld none (.t 21)⟩,⟨some 23,some (18,false),.bin .neq (.t 20) (.t 22)⟩,⟨some 24,none,.pick (.t 18) (.c (.d true (.bool true))) (.t 23)⟩,⟨some 25,none,.mv (.t 24)⟩,⟨some 26,some (25,false),.fa 3 (.t 2)⟩,⟨some 27,some (25,false),.ld none (.t 26)⟩,⟨some 28,some (25,false),.len (.t 27)⟩,⟨some 29,some (25,false),.fa 3 (.t 3)⟩,⟨some 30,some (25,false),.ld none (.t 29)⟩,⟨some 31,some (25,false),.len (.t 30)⟩,⟨some 32,some (25,false),.bin .neq (.t 28) (.t 31)⟩,⟨some 33,none,.pick (.t 25) (.c (.d true (.bool true))) (.t 32)⟩] [2,3,33]) (.cond (.t 33) (.seq (.region [⟨some 4,none,.mv (.c (.d true (.bool false)))⟩] [4]) (.ret)) (.skip))) (.seq (.seq (.region [⟨some 5,none,.mv (.c (.d true (.int .i64 0)))⟩] [2,3,5]) (.block 0 (.loop (.seq (.seq (.region [⟨some 34,none,.mv (.t 5)⟩,⟨some 35,none,.fa 3 (.t 2)⟩,⟨some 36,none,.ld none (.t 35)⟩,⟨some 37,none,.len (.t 36)⟩,⟨some 38,none,.bin .lss (.t 34) (.t 37)⟩] [2,3,5,38]) (.cond (.t 38) (.skip) (.exit 0))) (.seq (.block 1 (.seq (.draw [⟨some 41,none,.fa 3 (.t 2)⟩,⟨some 42,none,.ld none (.t 41)⟩,⟨some 43,none,.mv (.t 5)⟩,⟨some 44,none,.ia 4 (.t 42) (.t 43)⟩,⟨some 45,none,.ld (some 4) (.t 44)⟩,⟨some 46,none,.fa 3 (.t 3)⟩,⟨some 47,none,.ld none (.t 46)⟩,⟨some 48,none,.mv (.t 5)⟩,⟨some 49,none,.ia 4 (.t 47) (.t 48)⟩,⟨some 50,none,.ld (some 4) (.t 49)⟩,⟨some 51,none,.call (.c (.fn 54 [])) [.t 45,.t 50]⟩,⟨some 52,none,.not (.t 51)⟩] [2,3,5,52]) (.cond (.t 52) (.seq (.region [⟨some 4,none,.mv (.c (.d true (.bool false)))⟩] [4]) (.ret)) (.skip)))) (.region [⟨some 39,none,.mv (.t 5)⟩,⟨some 40,none,.bin .add (.t 39) (.c (.d true (.int .i64 1)))⟩,⟨some 5,none,.mv (.t 40)⟩] [2,3,5])))))) (.seq (.region [⟨some 4,none,.mv (.c (.d true (.bool true)))⟩] [4]) (.ret))))
theorem ok54 : FnOk Tryd.prog Tryd.f54 53 keep54 ac54 [.t 4]:=by
  refine ⟨?_,?_,?_,?_,?_⟩ <;> kernel_rfl

/-! impl.TermOk -/
def keep55 : Nat → List Nat
  | 0 => [1]
  | 1 => [2]
  | _ => []
def ac55 : AC:=.seq (.region [⟨some 1,none,.box (.t 0)⟩,⟨some 2,none,.mv (.c (.d true (.bool false)))⟩] [1]) (.seq (.region [⟨some 3,none,.ld (some 4) (.t 1)⟩,⟨some 4,none,.call (.c (.fn 57 [])) [.t 3]⟩,⟨some 5,none,.bin .leq (.t 4) (.c (.d true (.int .i64 200)))⟩,⟨some 6,none,.mv (.t 5)⟩,⟨some 7,some (6,true),.ld (some 4) (.t 1)⟩,⟨some 8,some (6,true),.call (.c (.fn 109 [])) [.t 7]⟩,⟨some 9,none,.pick (.t 6) (.t 8) (.c (.d true (.bool false)))⟩,⟨some 2,none,.mv (.t 9)⟩] [2]) (.ret))
theorem ok55 : FnOk Tryd.prog Tryd.f55 10 keep55 ac55 [.t 2]:=by
  refine ⟨?_,?_,?_,?_,?_⟩ <;> kernel_rfl

/-! spec.TermOk -/
def keep56 : Nat → List Nat
  | 0 => [1]
  | 1 => [2]
  | _ => []
def ac56 : AC:=.seq (.region [⟨some 1,none,.box (.t 0)⟩,⟨some 2,none,.mv (.c (.d true (.bool false)))⟩] [1]) (.seq (.region [⟨some 3,none,.ld (some 4) (.t 1)⟩,⟨some 4,none,.call (.c (.fn 58 [])) [.t 3]⟩,⟨some 5,none,.bin .leq (.t 4) (.c (.d true (.int .i64 200)))⟩,⟨some 6,none,.mv (.t 5)⟩,⟨some 7,some (6,true),.ld (some 4) (.t 1)⟩,⟨some 8,some (6,true),.call (.c (.fn 110 [])) [.t 7]⟩,⟨some 9,none,.pick (.t 6) (.t 8) (.c (.d true (.bool false)))⟩,⟨some 2,none,.mv (.t 9)⟩] [2]) (.ret))
theorem ok56 : FnOk Tryd.prog Tryd.f56 10 keep56 ac56 [.t 2]:=by
  refine ⟨?_,?_,?_,?_,?_⟩ <;> kernel_rfl

/-! impl.TermSize -/
def keep57 : Nat → List Nat
  | 0 => [1]
  | 1 => [1,3]
  | 2 => [3,7,8,9]
  | 3 => [3,7,8,9,10]
  | 4 => [3,5,7,8,9]
  | 5 => [3,7,8,9]
  | 6 => [3,7,8,9]
  | 7 => [2]
  | _ => []
def ac57 : AC:=.seq (.region [⟨some 1,none,.box (.t 0)⟩,⟨some 2,none,.mv (.c (.d true (.int .i64 0)))⟩] [1]) (.seq (.region [⟨some 3,none,.mv (.c (.d true (.int .i64 1)))⟩] [1,3]) (.seq (.seq (.region [⟨some 6,none,.fa 3 (.t 1)⟩,⟨some 7,none,.ld none (.t 6)⟩,⟨some 8,none,.len (.t 7)⟩,⟨some 9,none,.mv (.c (.d true (.int .i64 0)))⟩] [3,7,8,9]) (.block 0 (.loop (.seq (.region [⟨some 10,none,.bin .lss (.t 9) (.t 8)⟩] [3,7,8,9,10]) (.seq (.cond (.t 10) (.skip) (.exit 0)) (.seq (.block 1 (.seq (.region [⟨some 11,none,.ia 4 (.t 7) (.t 9)⟩,⟨some 12,none,.ld (some 4) (.t 11)⟩,⟨some 5,none,.alloc [.d true (.int .i64 0),.d true (.int .i64 0),.d true (.str ⟨#[]⟩),.nil]⟩,⟨none,none,.st 4 (.t 5) (.t 12)⟩] [3,5,7,8,9]) (.region [⟨some 13,none,.mv (.t 3)⟩,⟨some 14,none,.ld (some 4) (.t 5)⟩,⟨some 15,none,.call (.c (.fn 57 [])) [.t 14]⟩,⟨some 16,none,.bin .add (.t 13) (.t 15)⟩,⟨some 3,none,.mv (.t 16)⟩] [3,7,8,9]))) (.region [⟨some 17,none,.bin .add (.t 9) (.c (.d true (.int .i64 1)))⟩,⟨some 9,none,.mv (.t 17)⟩] [3,7,8,9]))))))) (.seq (.region [⟨some 18,none,.mv (.t 3)⟩,⟨some 2,none,.mv (.t 18)⟩] [2]) (.ret))))
theorem ok57 : FnOk Tryd.prog Tryd.f57 19 keep57 ac57 [.t 2]:=by
  refine ⟨?_,?_,?_,?_,?_⟩ <;> kernel_rfl

/-! spec.TermSize -/
def keep58 : Nat → List Nat
  | 0 => [1]
  | 1 => [1,3]
  | 2 => [1,3,4]
  | 3 => [1,3,4,9]
  | 4 => [1,3,4]
  | 5 => [1,3,4]
  | 6 => [2]
  | _ => []
def ac58 : AC:=.seq (.region [⟨some 1,none,.box (.t 0)⟩,⟨some 2,none,.mv (.c (.d true (.int .i64 0)))⟩] [1]) (.seq (.region [⟨some 3,none,.mv (.c (.d true (.int .i64 1)))⟩] [1,3]) (.seq (.seq (.region [⟨some 4,none,.mv (.c (.d true (.int .i64 0)))⟩] [1,3,4]) (.block 0 (.loop (.seq (.seq (.region [⟨some 5,none,.mv (.t 4)⟩,⟨some 6,none,.fa 3 (.t 1)⟩,⟨some 7,none,.ld none (.t 6)⟩,⟨some 8,none,.len (.t 7)⟩,⟨some 9,none,.bin .lss (.t 5) (.t 8)⟩] [1,3,4,9]) (.cond (.t 9) (.skip) (.exit 0))) (.seq (.block 1 (.region [⟨some 12,none,.mv (.t 3)⟩,⟨some 13,none,.fa 3 (.t 1)⟩,⟨some 14,none,.ld none (.t 13)⟩,⟨some 15,none,.mv (.t 4)⟩,⟨some 16,none,.ia 4 (.t 14) (.t 15)⟩,⟨some 17,none,.ld (some 4) (.t 16)⟩,⟨some 18,none,.call (.c (.fn 58 [])) [.t 17]⟩,⟨some 19,none,.bin .add (.t 12) (.t 18)⟩,⟨some 3,none,.mv (.t 19)⟩] [1,3,4])) (.region [⟨some 10,none,.mv (.t 4)⟩,⟨some 11,none,.bin .add (.t 10) (.c (.d true (.int .i64 1)))⟩,⟨some 4,none,.mv (.t 11)⟩] [1,3,4])))))) (.seq (.region [⟨some 20,none,.mv (.t 3)⟩,⟨some 2,none,.mv (.t 20)⟩] [2]) (.ret))))
theorem ok58 : FnOk Tryd.prog Tryd.f58 21 keep58 ac58 [.t 2]:=by
  refine ⟨?_,?_,?_,?_,?_⟩ <;> kernel_rfl

/-! impl.TermText -/
/-! spec.TermText -/
/-! laws.szPolicy -/
/-! spec.PolicyText -/
/-! laws.toPolicy -/
/-! impl.PolicyText -/
/-! laws.eqPolicy -/
/-! laws.szCert -/
def keep66 : Nat → List Nat
  | 0 => [1,2]
  | 1 => [1,2]
  | 2 => [1,2,11]
  | 3 => [4]
  | 4 => [1]
  | 5 => [1,17]
  | 6 => [4]
  | 7 => [4]
  | _ => []
def ac66 : AC:=.seq (.region [⟨some 2,none,.box (.t 0)⟩,⟨some 4,none,.mv (.c (.d true (.int .i64 0)))⟩] [1,2]) (.seq (.region [⟨some 5,none,.mv (.t 1)⟩,⟨some 6,none,.fa 0 (.t 2)⟩,⟨some 7,none,.ld none (.t 6)⟩,⟨some 8,none,.slen (.t 7)⟩,⟨some 9,none,.bin .sub (.t 5) (.t 8)⟩,⟨some 1,none,.mv (.t 9)⟩] [1,2]) (.seq (.seq (.region [⟨some 10,none,.mv (.t 1)⟩,⟨some 11,none,.bin .lss (.t 10) (.c (.d true (.int .i64 0)))⟩] [1,2,11]) (.cond (.t 11) (.seq (.region [⟨some 4,none,.mv (.c (.d true (.int .i64 (-1))))⟩] [4]) (.ret)) (.skip))) (.seq (.region [⟨some 12,none,.fa 1 (.t 2)⟩,⟨some 13,none,.ld (some 4) (.t 12)⟩,⟨some 14,none,.mv (.t 1)⟩,⟨some 15,none,.call (.c (.fn 122 [])) [.t 13,.t 14]⟩,⟨some 1,none,.mv (.t 15)⟩] [1]) (.seq (.seq (.region [⟨some 16,none,.mv (.t 1)⟩,⟨some 17,none,.bin .lss (.t 16) (.c (.d true (.int .i64 0)))⟩] [1,17]) (.cond (.t 17) (.seq (.region [⟨some 4,none,.mv (.c (.d true (.int .i64 (-1))))⟩] [4]) (.ret)) (.skip))) (.seq (.region [⟨some 18,none,.mv (.t 1)⟩,⟨some 4,none,.mv (.t 18)⟩] [4]) (.ret))))))
theorem ok66 : FnOk Tryd.prog Tryd.f66 19 keep66 ac66 [.t 4]:=by
  refine ⟨?_,?_,?_,?_,?_⟩ <;> kernel_rfl

/-! spec.CertTerm -/
def keep67 : Nat → List Nat
  | 0 => [1,2]
  | 1 => [1,2,5]
  | 2 => [2]
  | 3 => [2]
  | 1000003 => [1]
  | _ => []
def ac67 : AC:=.seq (.region [⟨some 1,none,.box (.t 0)⟩,⟨some 2,none,.alloc [.d true (.int .i64 0),.d true (.int .i64 0),.d true (.str ⟨#[]⟩),.nil]⟩] [1,2]) (.seq (.seq (.region [⟨some 3,none,.ld (some 6) (.t 1)⟩,⟨some 4,none,.call (.c (.fn 123 [])) [.t 3]⟩,⟨some 5,none,.not (.t 4)⟩] [1,2,5]) (.cond (.t 5) (.seq (.region [⟨some 6,none,.bld [.d true (.int .i64 0),.d true (.int .i64 0),.d true (.str ⟨#[]⟩),.nil] []⟩,⟨none,none,.st 4 (.t 2) (.t 6)⟩] [2]) (.ret)) (.skip))) (.seq (.tree (.take ⟨some 8,none,.fa 0 (.t 1)⟩ (.take ⟨some 9,none,.ld none (.t 8)⟩ (.take ⟨some 10,none,.bld [.d true (.int .i64 0),.d true (.int .i64 0),.d true (.str ⟨#[]⟩),.nil] [(0,1,.c (.d true (.int .i64 2))),(2,1,.t 9)]⟩ (.take ⟨some 11,none,.fa 1 (.t 1)⟩ (.take ⟨some 12,none,.ld (some 4) (.t 11)⟩ (.take ⟨some 13,none,.fa 5 (.t 1)⟩ (.take ⟨some 14,none,.ld none (.t 13)⟩ (.br (.cons ⟨some 7,none,.call (.c (.fn 124 [])) [.c (.d true (.int .i64 1))]⟩ (.br (.cons ⟨some 15,none,.call (.c (.fn 100 [])) [.t 14]⟩ (.br (.cons ⟨some 16,none,.call (.c (.fn 107 [])) [.t 12,.t 15]⟩ (.br (.cons ⟨some 17,none,.call (.c (.fn 107 [])) [.t 10,.t 16]⟩ (.br (.cons ⟨some 18,none,.call (.c (.fn 45 [])) [.t 7,.t 17]⟩ (.br (.cons ⟨none,none,.st 4 (.t 2) (.t 18)⟩ (.done) (.nil))) (.nil))) (.nil))) (.nil))) (.nil))) (.nil)))))))))) [2]) (.ret)))
theorem ok67 : FnOk Tryd.prog Tryd.f67 19 keep67 ac67 [.c 2 (some 4)]:=by
  refine ⟨?_,?_,?_,?_,?_⟩ <;> kernel_rfl

end Go.Proofs.YtlddcimpdkcgeaaDoor
