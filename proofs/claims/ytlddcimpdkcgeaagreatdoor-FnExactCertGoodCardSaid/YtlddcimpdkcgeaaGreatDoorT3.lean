/- Policies, as data. -/
import Derived.Test.YtlddcimpdkcgeaaGreatDoorT1
set_option linter.unusedVariables false
set_option linter.unusedSimpArgs false
namespace Go.Proofs.YtlddcimpdkcgeaaGreatDoor
open Go.RowKit Sym
def encStr (ss : List ByteArray) : List (List D):=ss.map fun s => [.str s]
theorem encStr_length (ss : List ByteArray) : (encStr ss).length = ss.length:=by simp [encStr]
theorem encStr_getD (ss : List ByteArray) (k : Nat) (s : ByteArray) (h : ss[k]? = some s) : (encStr ss).getD k [] = [.str s]:=by simp [encStr,List.getD,h]
structure Policy where
  dom : ByteArray
  mode : Int
  mx : List ByteArray
  til : Int
def Policy.enc (p : Policy) : List D:=[.str p.dom,.int .i64 p.mode,.sl (encStr p.mx),.int .i64 p.til]
@[reducible] def Policy.v (p : Policy) : A:=.agg [.d false (.str p.dom),.d false (.int .i64 p.mode),.d false (.sl (encStr p.mx)),.d false (.int .i64 p.til)]
theorem Policy.v_eq (p : Policy) : p.v = .agg [.d false (.str p.dom),.d false (.int .i64 p.mode),.d false (.sl (encStr p.mx)),.d false (.int .i64 p.til)]:=rfl
theorem Policy.enc_eq (p : Policy) : p.enc = [.str p.dom,.int .i64 p.mode,.sl (encStr p.mx),.int .i64 p.til]:=rfl
def cntStr : List ByteArray → Nat
  | [] => 0
  | s :: ss => s.size + cntStr ss
def Policy.cnt (p : Policy) : Nat:=p.dom.size + (p.mx.length + cntStr p.mx)
end Go.Proofs.YtlddcimpdkcgeaaGreatDoor
