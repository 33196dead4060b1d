/-
  No cell of these rows narrows 'for every input' (looked for: loops, veiled, ifaces, maps, wideKeys, modest, calm, conditions, laid).
  DERIVED. THE GIVEN ROWS OF THIS SEAT. 3 by the template 'for every input the law returns true; each argument reads behind the call as it read before'; 0 by the template 'total and deterministic' (their statements: YtlddcimpdkcgeaaTotals.lean).
  GIVEN WITH THE SEED: the statements are not yours to turn. If you find one false, say at which input.
  Laid BY PROGRAM, IN A SANDBOX (cutbox-rows.mjs): the forced cells as the released guide's own fill.sh prints them over the translation 66148de7a254299f… (all of the seat's roots in one cut). By AI agents, Wed Nov 11 2026. No macro, syntax, notation, axiom, sorry.
-/
import Derived.Test.YtlddcimpdkcgeaaChecked
import GoSem.Claim
import GoSem.ClaimJoined
import GoSem.ClaimMapViews
import Derived.JoinedTies
import Derived.KernelRfl
namespace Go.Proofs.Ytlddcimpdkcgeaa
/- THE CELL 'sum', in the pinned program and in every row, IS THE sha256 OF THE DUMP (.gsa) THAT YtlddcimpdkcgeaaProg.lean LOADS. Nothing in Lean hashes anything: it is a label: what it is worth is what the hold of that sum in a sandbox is worth. -/
noncomputable def Try.pinned : Pinned := { name := "ytlddcimpdkcgeaa", sum := "66148de7a254299f4d5c74ee51471c99fa62c36c8ffa62877b9d8cf167a10eb2", checked := Try.checked }
namespace Rows
def none {H : Type} : Left H := { results := [], args := [] }

/-- 'laws.FnMaking': WHATEVER THE INPUT: true; the input reads as it did. -/
def fnMakingSpec : ChangeSpec := { name := "fnMaking", fn := fun _ => fun
  | [d] => { results := [.lit (.bool true)], args := [d] }
  | _ => none }
def fnMakingRow : OpenClaim := { program := "ytlddcimpdkcgeaa", sum := "66148de7a254299f4d5c74ee51471c99fa62c36c8ffa62877b9d8cf167a10eb2", func := "loop.example/g00328/laws.FnMaking", spec := "fnMaking", unfollowed := true, recurses := true, apart := false }
def FnMakingSaid : Prop := fnMakingRow.holds Try.pinned (OpenSpec.ofChange fnMakingSpec)

/-- ITS FALSE NEIGHBOUR: 'it returns false'. Refute it at one input. -/
def fnMakingWrong : ChangeSpec := { name := "fnMaking", fn := fun _ => fun
  | [d] => { results := [.lit (.bool false)], args := [d] }
  | _ => none }
def FnMakingWrongFalsely : Prop := fnMakingRow.holds Try.pinned (OpenSpec.ofChange fnMakingWrong)

/-- 'laws.FnAgrees': WHATEVER THE INPUT: true; the input reads as it did. -/
def fnAgreesSpec : ChangeSpec := { name := "fnAgrees", fn := fun _ => fun
  | [d] => { results := [.lit (.bool true)], args := [d] }
  | _ => none }
def fnAgreesRow : OpenClaim := { program := "ytlddcimpdkcgeaa", sum := "66148de7a254299f4d5c74ee51471c99fa62c36c8ffa62877b9d8cf167a10eb2", func := "loop.example/g00328/laws.FnAgrees", spec := "fnAgrees", unfollowed := true, recurses := true, apart := false }
def FnAgreesSaid : Prop := fnAgreesRow.holds Try.pinned (OpenSpec.ofChange fnAgreesSpec)

/-- ITS FALSE NEIGHBOUR: 'it returns false'. Refute it at one input. -/
def fnAgreesWrong : ChangeSpec := { name := "fnAgrees", fn := fun _ => fun
  | [d] => { results := [.lit (.bool false)], args := [d] }
  | _ => none }
def FnAgreesWrongFalsely : Prop := fnAgreesRow.holds Try.pinned (OpenSpec.ofChange fnAgreesWrong)

/-- 'laws.FnKnows': WHATEVER THE INPUT: true; the input reads as it did. -/
def fnKnowsSpec : ChangeSpec := { name := "fnKnows", fn := fun _ => fun
  | [d] => { results := [.lit (.bool true)], args := [d] }
  | _ => none }
def fnKnowsRow : OpenClaim := { program := "ytlddcimpdkcgeaa", sum := "66148de7a254299f4d5c74ee51471c99fa62c36c8ffa62877b9d8cf167a10eb2", func := "loop.example/g00328/laws.FnKnows", spec := "fnKnows", unfollowed := true, recurses := true, apart := false }
def FnKnowsSaid : Prop := fnKnowsRow.holds Try.pinned (OpenSpec.ofChange fnKnowsSpec)

/-- ITS FALSE NEIGHBOUR: 'it returns false'. Refute it at one input. -/
def fnKnowsWrong : ChangeSpec := { name := "fnKnows", fn := fun _ => fun
  | [d] => { results := [.lit (.bool false)], args := [d] }
  | _ => none }
def FnKnowsWrongFalsely : Prop := fnKnowsRow.holds Try.pinned (OpenSpec.ofChange fnKnowsWrong)

/- THE SECOND FORM. 'bulk': how many values and letters a reading holds, each counted each time it is reached (what is shared counts as often as it is met; a slice's spare places count too). A statement '..UptoSaid' is the law's where the arguments, and the package variables that the reading takes, are together of bulk at most 1048576: NARROWER than '..Said'. Prove '..Said' where nothing that the law and all that it calls make is longer than what came in: it says more and counts as full. Else prove '..UptoSaid'. A law counts once. -/
mutual
def uptoBulk {H : Type} : DataW H → Nat
  | .lit (.string bytes) => bytes.length + 1
  | .lit _ => 1
  | .nil => 1
  | .ptr d => uptoBulk d + 1
  | .slice elems spare => uptoBulkAll elems + uptoBulkAll spare + 1
  | .agg parts => uptoBulkAll parts + 1
  | .iface _ d => uptoBulk d + 1
  | .map entries => uptoBulkEntries entries + 1
  | .held _ => 1
def uptoBulkAll {H : Type} : List (DataW H) → Nat
  | [] => 0
  | d :: r => uptoBulk d + uptoBulkAll r
def uptoBulkEntries {H : Type} : List (Lit × DataW H) → Nat
  | [] => 0
  | x :: r => uptoBulkEntry x + uptoBulkEntries r
def uptoBulkEntry {H : Type} : Lit × DataW H → Nat
  | (.string bytes, d) => bytes.length + uptoBulk d + 1
  | (_, d) => uptoBulk d + 1
 end
def uptoSmall : (H : Type) → List (DataW H) → Bool := fun _ ds => decide (uptoBulkAll ds ≤ 1048576)
def OpenSpec.upto (s : _root_.Go.ChangeSpec) : _root_.Go.OpenSpec := { _root_.Go.OpenSpec.ofChange s with cond := some uptoSmall }

/-- 'laws.FnMaking', WHERE WHAT IT READS IS OF BULK AT MOST 1048576: true; the input reads as it did. -/
def fnMakingUptoRow : OpenClaim := { program := "ytlddcimpdkcgeaa", sum := "66148de7a254299f4d5c74ee51471c99fa62c36c8ffa62877b9d8cf167a10eb2", func := "loop.example/g00328/laws.FnMaking", spec := "fnMaking", unfollowed := true, recurses := true, apart := false, narrowed := true }
def FnMakingUptoSaid : Prop := fnMakingUptoRow.holds Try.pinned (OpenSpec.upto fnMakingSpec)

/-- 'laws.FnAgrees', WHERE WHAT IT READS IS OF BULK AT MOST 1048576: true; the input reads as it did. -/
def fnAgreesUptoRow : OpenClaim := { program := "ytlddcimpdkcgeaa", sum := "66148de7a254299f4d5c74ee51471c99fa62c36c8ffa62877b9d8cf167a10eb2", func := "loop.example/g00328/laws.FnAgrees", spec := "fnAgrees", unfollowed := true, recurses := true, apart := false, narrowed := true }
def FnAgreesUptoSaid : Prop := fnAgreesUptoRow.holds Try.pinned (OpenSpec.upto fnAgreesSpec)

/-- 'laws.FnKnows', WHERE WHAT IT READS IS OF BULK AT MOST 1048576: true; the input reads as it did. -/
def fnKnowsUptoRow : OpenClaim := { program := "ytlddcimpdkcgeaa", sum := "66148de7a254299f4d5c74ee51471c99fa62c36c8ffa62877b9d8cf167a10eb2", func := "loop.example/g00328/laws.FnKnows", spec := "fnKnows", unfollowed := true, recurses := true, apart := false, narrowed := true }
def FnKnowsUptoSaid : Prop := fnKnowsUptoRow.holds Try.pinned (OpenSpec.upto fnKnowsSpec)

end Rows
end Go.Proofs.Ytlddcimpdkcgeaa
