/-
  NARROWER THAN 'FOR EVERY INPUT', by the rows' own cells (each row's printed sentence says how): FnExactSigned: loops · FnExactPub: loops · FnExactHash: loops · FnExactPair: loops · FnExactSign: loops · FnExactBoth: loops · FnExactHello: loops · FnExactHelloOf: loops · FnExactAgree: loops · FnExactCan: loops · FnExactParts: loops.
  DERIVED. THE GIVEN ROWS OF THIS SEAT. 11 by the template 'for every input the law returns true; each argument reads behind the call as it read before'; 0 by the template 'total and deterministic' (their statements: YtdcmdjifncpkoaaTotals.lean).
  GIVEN WITH THE SEED: the statements are not yours to turn. If you find one false, say at which input.
  Laid BY PROGRAM, IN A SANDBOX (cutbox-rows.mjs): the forced cells as the released guide's own fill.sh prints them over the translation b031dd1ee57594c8… (all of the seat's roots in one cut). By AI agents, Wed Nov 11 2026. No macro, syntax, notation, axiom, sorry.
-/
import Derived.Test.YtdcmdjifncpkoaaChecked
import GoSem.Claim
import GoSem.ClaimJoined
import GoSem.ClaimMapViews
import Derived.JoinedTies
import Derived.KernelRfl
namespace Go.Proofs.Ytdcmdjifncpkoaa
/- THE CELL 'sum', in the pinned program and in every row, IS THE sha256 OF THE DUMP (.gsa) THAT YtdcmdjifncpkoaaProg.lean LOADS. Nothing in Lean hashes anything: it is a label: what it is worth is what the hold of that sum in a sandbox is worth. -/
noncomputable def Try.pinned : Pinned := { name := "ytdcmdjifncpkoaa", sum := "b031dd1ee57594c8a2345ee26944f588b4fd7a2d718e180db6edde351cba0de2", checked := Try.checked }
namespace Rows
def none {H : Type} : Left H := { results := [], args := [] }

/-- 'laws.FnExactSigned': WHATEVER THE INPUT: true; the input reads as it did. -/
def fnExactSignedSpec : ChangeSpec := { name := "fnExactSigned", fn := fun _ => fun
  | [d1, d2] => { results := [.lit (.bool true)], args := [d1, d2] }
  | _ => none }
def fnExactSignedRow : OpenClaim := { program := "ytdcmdjifncpkoaa", sum := "b031dd1ee57594c8a2345ee26944f588b4fd7a2d718e180db6edde351cba0de2", func := "loop.example/g00328/laws.FnExactSigned", spec := "fnExactSigned", unfollowed := true, recurses := true, loops := true, apart := false }
def FnExactSignedSaid : Prop := fnExactSignedRow.holds Try.pinned (OpenSpec.ofChange fnExactSignedSpec)

/-- ITS FALSE NEIGHBOUR: 'it returns false'. Refute it at one input. -/
def fnExactSignedWrong : ChangeSpec := { name := "fnExactSigned", fn := fun _ => fun
  | [d1, d2] => { results := [.lit (.bool false)], args := [d1, d2] }
  | _ => none }
def FnExactSignedWrongFalsely : Prop := fnExactSignedRow.holds Try.pinned (OpenSpec.ofChange fnExactSignedWrong)

/-- 'laws.FnExactPub': WHATEVER THE INPUT: true; the input reads as it did. -/
def fnExactPubSpec : ChangeSpec := { name := "fnExactPub", fn := fun _ => fun
  | [d] => { results := [.lit (.bool true)], args := [d] }
  | _ => none }
def fnExactPubRow : OpenClaim := { program := "ytdcmdjifncpkoaa", sum := "b031dd1ee57594c8a2345ee26944f588b4fd7a2d718e180db6edde351cba0de2", func := "loop.example/g00328/laws.FnExactPub", spec := "fnExactPub", unfollowed := true, recurses := true, loops := true, apart := false }
def FnExactPubSaid : Prop := fnExactPubRow.holds Try.pinned (OpenSpec.ofChange fnExactPubSpec)

/-- ITS FALSE NEIGHBOUR: 'it returns false'. Refute it at one input. -/
def fnExactPubWrong : ChangeSpec := { name := "fnExactPub", fn := fun _ => fun
  | [d] => { results := [.lit (.bool false)], args := [d] }
  | _ => none }
def FnExactPubWrongFalsely : Prop := fnExactPubRow.holds Try.pinned (OpenSpec.ofChange fnExactPubWrong)

/-- 'laws.FnExactHash': WHATEVER THE INPUT: true; the input reads as it did. -/
def fnExactHashSpec : ChangeSpec := { name := "fnExactHash", fn := fun _ => fun
  | [d] => { results := [.lit (.bool true)], args := [d] }
  | _ => none }
def fnExactHashRow : OpenClaim := { program := "ytdcmdjifncpkoaa", sum := "b031dd1ee57594c8a2345ee26944f588b4fd7a2d718e180db6edde351cba0de2", func := "loop.example/g00328/laws.FnExactHash", spec := "fnExactHash", unfollowed := true, recurses := true, loops := true, apart := false }
def FnExactHashSaid : Prop := fnExactHashRow.holds Try.pinned (OpenSpec.ofChange fnExactHashSpec)

/-- ITS FALSE NEIGHBOUR: 'it returns false'. Refute it at one input. -/
def fnExactHashWrong : ChangeSpec := { name := "fnExactHash", fn := fun _ => fun
  | [d] => { results := [.lit (.bool false)], args := [d] }
  | _ => none }
def FnExactHashWrongFalsely : Prop := fnExactHashRow.holds Try.pinned (OpenSpec.ofChange fnExactHashWrong)

/-- 'laws.FnExactPair': WHATEVER THE INPUT: true; the input reads as it did. -/
def fnExactPairSpec : ChangeSpec := { name := "fnExactPair", fn := fun _ => fun
  | [d1, d2] => { results := [.lit (.bool true)], args := [d1, d2] }
  | _ => none }
def fnExactPairRow : OpenClaim := { program := "ytdcmdjifncpkoaa", sum := "b031dd1ee57594c8a2345ee26944f588b4fd7a2d718e180db6edde351cba0de2", func := "loop.example/g00328/laws.FnExactPair", spec := "fnExactPair", unfollowed := true, recurses := true, loops := true, apart := false }
def FnExactPairSaid : Prop := fnExactPairRow.holds Try.pinned (OpenSpec.ofChange fnExactPairSpec)

/-- ITS FALSE NEIGHBOUR: 'it returns false'. Refute it at one input. -/
def fnExactPairWrong : ChangeSpec := { name := "fnExactPair", fn := fun _ => fun
  | [d1, d2] => { results := [.lit (.bool false)], args := [d1, d2] }
  | _ => none }
def FnExactPairWrongFalsely : Prop := fnExactPairRow.holds Try.pinned (OpenSpec.ofChange fnExactPairWrong)

/-- 'laws.FnExactSign': WHATEVER THE INPUT: true; the input reads as it did. -/
def fnExactSignSpec : ChangeSpec := { name := "fnExactSign", fn := fun _ => fun
  | [d1, d2] => { results := [.lit (.bool true)], args := [d1, d2] }
  | _ => none }
def fnExactSignRow : OpenClaim := { program := "ytdcmdjifncpkoaa", sum := "b031dd1ee57594c8a2345ee26944f588b4fd7a2d718e180db6edde351cba0de2", func := "loop.example/g00328/laws.FnExactSign", spec := "fnExactSign", unfollowed := true, recurses := true, loops := true, apart := false }
def FnExactSignSaid : Prop := fnExactSignRow.holds Try.pinned (OpenSpec.ofChange fnExactSignSpec)

/-- ITS FALSE NEIGHBOUR: 'it returns false'. Refute it at one input. -/
def fnExactSignWrong : ChangeSpec := { name := "fnExactSign", fn := fun _ => fun
  | [d1, d2] => { results := [.lit (.bool false)], args := [d1, d2] }
  | _ => none }
def FnExactSignWrongFalsely : Prop := fnExactSignRow.holds Try.pinned (OpenSpec.ofChange fnExactSignWrong)

/-- 'laws.FnExactBoth': WHATEVER THE INPUT: true; the input reads as it did. -/
def fnExactBothSpec : ChangeSpec := { name := "fnExactBoth", fn := fun _ => fun
  | [d1, d2] => { results := [.lit (.bool true)], args := [d1, d2] }
  | _ => none }
def fnExactBothRow : OpenClaim := { program := "ytdcmdjifncpkoaa", sum := "b031dd1ee57594c8a2345ee26944f588b4fd7a2d718e180db6edde351cba0de2", func := "loop.example/g00328/laws.FnExactBoth", spec := "fnExactBoth", unfollowed := true, recurses := true, loops := true, apart := false }
def FnExactBothSaid : Prop := fnExactBothRow.holds Try.pinned (OpenSpec.ofChange fnExactBothSpec)

/-- ITS FALSE NEIGHBOUR: 'it returns false'. Refute it at one input. -/
def fnExactBothWrong : ChangeSpec := { name := "fnExactBoth", fn := fun _ => fun
  | [d1, d2] => { results := [.lit (.bool false)], args := [d1, d2] }
  | _ => none }
def FnExactBothWrongFalsely : Prop := fnExactBothRow.holds Try.pinned (OpenSpec.ofChange fnExactBothWrong)

/-- 'laws.FnExactHello': WHATEVER THE INPUT: true; the input reads as it did. -/
def fnExactHelloSpec : ChangeSpec := { name := "fnExactHello", fn := fun _ => fun
  | [d] => { results := [.lit (.bool true)], args := [d] }
  | _ => none }
def fnExactHelloRow : OpenClaim := { program := "ytdcmdjifncpkoaa", sum := "b031dd1ee57594c8a2345ee26944f588b4fd7a2d718e180db6edde351cba0de2", func := "loop.example/g00328/laws.FnExactHello", spec := "fnExactHello", unfollowed := true, recurses := true, loops := true, apart := false }
def FnExactHelloSaid : Prop := fnExactHelloRow.holds Try.pinned (OpenSpec.ofChange fnExactHelloSpec)

/-- ITS FALSE NEIGHBOUR: 'it returns false'. Refute it at one input. -/
def fnExactHelloWrong : ChangeSpec := { name := "fnExactHello", fn := fun _ => fun
  | [d] => { results := [.lit (.bool false)], args := [d] }
  | _ => none }
def FnExactHelloWrongFalsely : Prop := fnExactHelloRow.holds Try.pinned (OpenSpec.ofChange fnExactHelloWrong)

/-- 'laws.FnExactHelloOf': WHATEVER THE INPUT: true; the input reads as it did. -/
def fnExactHelloOfSpec : ChangeSpec := { name := "fnExactHelloOf", fn := fun _ => fun
  | [d] => { results := [.lit (.bool true)], args := [d] }
  | _ => none }
def fnExactHelloOfRow : OpenClaim := { program := "ytdcmdjifncpkoaa", sum := "b031dd1ee57594c8a2345ee26944f588b4fd7a2d718e180db6edde351cba0de2", func := "loop.example/g00328/laws.FnExactHelloOf", spec := "fnExactHelloOf", unfollowed := true, recurses := true, loops := true, apart := false }
def FnExactHelloOfSaid : Prop := fnExactHelloOfRow.holds Try.pinned (OpenSpec.ofChange fnExactHelloOfSpec)

/-- ITS FALSE NEIGHBOUR: 'it returns false'. Refute it at one input. -/
def fnExactHelloOfWrong : ChangeSpec := { name := "fnExactHelloOf", fn := fun _ => fun
  | [d] => { results := [.lit (.bool false)], args := [d] }
  | _ => none }
def FnExactHelloOfWrongFalsely : Prop := fnExactHelloOfRow.holds Try.pinned (OpenSpec.ofChange fnExactHelloOfWrong)

/-- 'laws.FnExactAgree': WHATEVER THE INPUT: true; the input reads as it did. -/
def fnExactAgreeSpec : ChangeSpec := { name := "fnExactAgree", fn := fun _ => fun
  | [d1, d2] => { results := [.lit (.bool true)], args := [d1, d2] }
  | _ => none }
def fnExactAgreeRow : OpenClaim := { program := "ytdcmdjifncpkoaa", sum := "b031dd1ee57594c8a2345ee26944f588b4fd7a2d718e180db6edde351cba0de2", func := "loop.example/g00328/laws.FnExactAgree", spec := "fnExactAgree", unfollowed := true, recurses := true, loops := true, apart := false }
def FnExactAgreeSaid : Prop := fnExactAgreeRow.holds Try.pinned (OpenSpec.ofChange fnExactAgreeSpec)

/-- ITS FALSE NEIGHBOUR: 'it returns false'. Refute it at one input. -/
def fnExactAgreeWrong : ChangeSpec := { name := "fnExactAgree", fn := fun _ => fun
  | [d1, d2] => { results := [.lit (.bool false)], args := [d1, d2] }
  | _ => none }
def FnExactAgreeWrongFalsely : Prop := fnExactAgreeRow.holds Try.pinned (OpenSpec.ofChange fnExactAgreeWrong)

/-- 'laws.FnExactCan': WHATEVER THE INPUT: true; the input reads as it did. -/
def fnExactCanSpec : ChangeSpec := { name := "fnExactCan", fn := fun _ => fun
  | [d1, d2] => { results := [.lit (.bool true)], args := [d1, d2] }
  | _ => none }
def fnExactCanRow : OpenClaim := { program := "ytdcmdjifncpkoaa", sum := "b031dd1ee57594c8a2345ee26944f588b4fd7a2d718e180db6edde351cba0de2", func := "loop.example/g00328/laws.FnExactCan", spec := "fnExactCan", unfollowed := true, recurses := true, loops := true, apart := false }
def FnExactCanSaid : Prop := fnExactCanRow.holds Try.pinned (OpenSpec.ofChange fnExactCanSpec)

/-- ITS FALSE NEIGHBOUR: 'it returns false'. Refute it at one input. -/
def fnExactCanWrong : ChangeSpec := { name := "fnExactCan", fn := fun _ => fun
  | [d1, d2] => { results := [.lit (.bool false)], args := [d1, d2] }
  | _ => none }
def FnExactCanWrongFalsely : Prop := fnExactCanRow.holds Try.pinned (OpenSpec.ofChange fnExactCanWrong)

/-- 'laws.FnExactParts': WHATEVER THE INPUT: true; the input reads as it did. -/
def fnExactPartsSpec : ChangeSpec := { name := "fnExactParts", fn := fun _ => fun
  | [d] => { results := [.lit (.bool true)], args := [d] }
  | _ => none }
def fnExactPartsRow : OpenClaim := { program := "ytdcmdjifncpkoaa", sum := "b031dd1ee57594c8a2345ee26944f588b4fd7a2d718e180db6edde351cba0de2", func := "loop.example/g00328/laws.FnExactParts", spec := "fnExactParts", unfollowed := true, recurses := true, loops := true, apart := false }
def FnExactPartsSaid : Prop := fnExactPartsRow.holds Try.pinned (OpenSpec.ofChange fnExactPartsSpec)

/-- ITS FALSE NEIGHBOUR: 'it returns false'. Refute it at one input. -/
def fnExactPartsWrong : ChangeSpec := { name := "fnExactParts", fn := fun _ => fun
  | [d] => { results := [.lit (.bool false)], args := [d] }
  | _ => none }
def FnExactPartsWrongFalsely : Prop := fnExactPartsRow.holds Try.pinned (OpenSpec.ofChange fnExactPartsWrong)

/- THE SECOND FORM. 'bulk': how many values and letters a reading holds, each counted each time it is reached (what is shared counts as often as it is met; a slice's spare places count too). A statement '..UptoSaid' is the law's where the arguments, and the package variables that the reading takes, are together of bulk at most 1048576: NARROWER than '..Said'. Prove '..Said' where nothing that the law and all that it calls make is longer than what came in: it says more and counts as full. Else prove '..UptoSaid'. A law counts once. -/
mutual
def uptoBulk {H : Type} : DataW H → Nat
  | .lit (.string bytes) => bytes.length + 1
  | .lit _ => 1
  | .nil => 1
  | .ptr d => uptoBulk d + 1
  | .slice elems spare => uptoBulkAll elems + uptoBulkAll spare + 1
  | .agg parts => uptoBulkAll parts + 1
  | .iface _ d => uptoBulk d + 1
  | .map entries => uptoBulkEntries entries + 1
  | .held _ => 1
def uptoBulkAll {H : Type} : List (DataW H) → Nat
  | [] => 0
  | d :: r => uptoBulk d + uptoBulkAll r
def uptoBulkEntries {H : Type} : List (Lit × DataW H) → Nat
  | [] => 0
  | x :: r => uptoBulkEntry x + uptoBulkEntries r
def uptoBulkEntry {H : Type} : Lit × DataW H → Nat
  | (.string bytes, d) => bytes.length + uptoBulk d + 1
  | (_, d) => uptoBulk d + 1
 end
def uptoSmall : (H : Type) → List (DataW H) → Bool := fun _ ds => decide (uptoBulkAll ds ≤ 1048576)
def OpenSpec.upto (s : _root_.Go.ChangeSpec) : _root_.Go.OpenSpec := { _root_.Go.OpenSpec.ofChange s with cond := some uptoSmall }

/-- 'laws.FnExactSigned', WHERE WHAT IT READS IS OF BULK AT MOST 1048576: true; the input reads as it did. -/
def fnExactSignedUptoRow : OpenClaim := { program := "ytdcmdjifncpkoaa", sum := "b031dd1ee57594c8a2345ee26944f588b4fd7a2d718e180db6edde351cba0de2", func := "loop.example/g00328/laws.FnExactSigned", spec := "fnExactSigned", unfollowed := true, recurses := true, loops := true, apart := false, narrowed := true }
def FnExactSignedUptoSaid : Prop := fnExactSignedUptoRow.holds Try.pinned (OpenSpec.upto fnExactSignedSpec)

/-- 'laws.FnExactPub', WHERE WHAT IT READS IS OF BULK AT MOST 1048576: true; the input reads as it did. -/
def fnExactPubUptoRow : OpenClaim := { program := "ytdcmdjifncpkoaa", sum := "b031dd1ee57594c8a2345ee26944f588b4fd7a2d718e180db6edde351cba0de2", func := "loop.example/g00328/laws.FnExactPub", spec := "fnExactPub", unfollowed := true, recurses := true, loops := true, apart := false, narrowed := true }
def FnExactPubUptoSaid : Prop := fnExactPubUptoRow.holds Try.pinned (OpenSpec.upto fnExactPubSpec)

/-- 'laws.FnExactHash', WHERE WHAT IT READS IS OF BULK AT MOST 1048576: true; the input reads as it did. -/
def fnExactHashUptoRow : OpenClaim := { program := "ytdcmdjifncpkoaa", sum := "b031dd1ee57594c8a2345ee26944f588b4fd7a2d718e180db6edde351cba0de2", func := "loop.example/g00328/laws.FnExactHash", spec := "fnExactHash", unfollowed := true, recurses := true, loops := true, apart := false, narrowed := true }
def FnExactHashUptoSaid : Prop := fnExactHashUptoRow.holds Try.pinned (OpenSpec.upto fnExactHashSpec)

/-- 'laws.FnExactPair', WHERE WHAT IT READS IS OF BULK AT MOST 1048576: true; the input reads as it did. -/
def fnExactPairUptoRow : OpenClaim := { program := "ytdcmdjifncpkoaa", sum := "b031dd1ee57594c8a2345ee26944f588b4fd7a2d718e180db6edde351cba0de2", func := "loop.example/g00328/laws.FnExactPair", spec := "fnExactPair", unfollowed := true, recurses := true, loops := true, apart := false, narrowed := true }
def FnExactPairUptoSaid : Prop := fnExactPairUptoRow.holds Try.pinned (OpenSpec.upto fnExactPairSpec)

/-- 'laws.FnExactSign', WHERE WHAT IT READS IS OF BULK AT MOST 1048576: true; the input reads as it did. -/
def fnExactSignUptoRow : OpenClaim := { program := "ytdcmdjifncpkoaa", sum := "b031dd1ee57594c8a2345ee26944f588b4fd7a2d718e180db6edde351cba0de2", func := "loop.example/g00328/laws.FnExactSign", spec := "fnExactSign", unfollowed := true, recurses := true, loops := true, apart := false, narrowed := true }
def FnExactSignUptoSaid : Prop := fnExactSignUptoRow.holds Try.pinned (OpenSpec.upto fnExactSignSpec)

/-- 'laws.FnExactBoth', WHERE WHAT IT READS IS OF BULK AT MOST 1048576: true; the input reads as it did. -/
def fnExactBothUptoRow : OpenClaim := { program := "ytdcmdjifncpkoaa", sum := "b031dd1ee57594c8a2345ee26944f588b4fd7a2d718e180db6edde351cba0de2", func := "loop.example/g00328/laws.FnExactBoth", spec := "fnExactBoth", unfollowed := true, recurses := true, loops := true, apart := false, narrowed := true }
def FnExactBothUptoSaid : Prop := fnExactBothUptoRow.holds Try.pinned (OpenSpec.upto fnExactBothSpec)

/-- 'laws.FnExactHello', WHERE WHAT IT READS IS OF BULK AT MOST 1048576: true; the input reads as it did. -/
def fnExactHelloUptoRow : OpenClaim := { program := "ytdcmdjifncpkoaa", sum := "b031dd1ee57594c8a2345ee26944f588b4fd7a2d718e180db6edde351cba0de2", func := "loop.example/g00328/laws.FnExactHello", spec := "fnExactHello", unfollowed := true, recurses := true, loops := true, apart := false, narrowed := true }
def FnExactHelloUptoSaid : Prop := fnExactHelloUptoRow.holds Try.pinned (OpenSpec.upto fnExactHelloSpec)

/-- 'laws.FnExactHelloOf', WHERE WHAT IT READS IS OF BULK AT MOST 1048576: true; the input reads as it did. -/
def fnExactHelloOfUptoRow : OpenClaim := { program := "ytdcmdjifncpkoaa", sum := "b031dd1ee57594c8a2345ee26944f588b4fd7a2d718e180db6edde351cba0de2", func := "loop.example/g00328/laws.FnExactHelloOf", spec := "fnExactHelloOf", unfollowed := true, recurses := true, loops := true, apart := false, narrowed := true }
def FnExactHelloOfUptoSaid : Prop := fnExactHelloOfUptoRow.holds Try.pinned (OpenSpec.upto fnExactHelloOfSpec)

/-- 'laws.FnExactAgree', WHERE WHAT IT READS IS OF BULK AT MOST 1048576: true; the input reads as it did. -/
def fnExactAgreeUptoRow : OpenClaim := { program := "ytdcmdjifncpkoaa", sum := "b031dd1ee57594c8a2345ee26944f588b4fd7a2d718e180db6edde351cba0de2", func := "loop.example/g00328/laws.FnExactAgree", spec := "fnExactAgree", unfollowed := true, recurses := true, loops := true, apart := false, narrowed := true }
def FnExactAgreeUptoSaid : Prop := fnExactAgreeUptoRow.holds Try.pinned (OpenSpec.upto fnExactAgreeSpec)

/-- 'laws.FnExactCan', WHERE WHAT IT READS IS OF BULK AT MOST 1048576: true; the input reads as it did. -/
def fnExactCanUptoRow : OpenClaim := { program := "ytdcmdjifncpkoaa", sum := "b031dd1ee57594c8a2345ee26944f588b4fd7a2d718e180db6edde351cba0de2", func := "loop.example/g00328/laws.FnExactCan", spec := "fnExactCan", unfollowed := true, recurses := true, loops := true, apart := false, narrowed := true }
def FnExactCanUptoSaid : Prop := fnExactCanUptoRow.holds Try.pinned (OpenSpec.upto fnExactCanSpec)

/-- 'laws.FnExactParts', WHERE WHAT IT READS IS OF BULK AT MOST 1048576: true; the input reads as it did. -/
def fnExactPartsUptoRow : OpenClaim := { program := "ytdcmdjifncpkoaa", sum := "b031dd1ee57594c8a2345ee26944f588b4fd7a2d718e180db6edde351cba0de2", func := "loop.example/g00328/laws.FnExactParts", spec := "fnExactParts", unfollowed := true, recurses := true, loops := true, apart := false, narrowed := true }
def FnExactPartsUptoSaid : Prop := fnExactPartsUptoRow.holds Try.pinned (OpenSpec.upto fnExactPartsSpec)

end Rows
end Go.Proofs.Ytdcmdjifncpkoaa
