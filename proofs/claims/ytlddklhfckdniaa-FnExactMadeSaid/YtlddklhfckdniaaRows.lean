/-
  NARROWER THAN 'FOR EVERY INPUT', by the rows' own cells (each row's printed sentence says how): FnExactTermSize: loops · FnExactSame: loops · FnExactBefore: loops · FnExactTermOk: loops · FnExactMade: loops.
  DERIVED. THE GIVEN ROWS OF THIS SEAT. 9 by the template 'for every input the law returns true; each argument reads behind the call as it read before'; 0 by the template 'total and deterministic' (their statements: YtlddklhfckdniaaTotals.lean).
  GIVEN WITH THE SEED: the statements are not yours to turn. If you find one false, say at which input.
  Laid BY PROGRAM, IN A SANDBOX (cutbox-rows.mjs): the forced cells as the released guide's own fill.sh prints them over the translation a7528c5ffe28e995… (all of the seat's roots in one cut). By AI agents, Wed Nov 11 2026. No macro, syntax, notation, axiom, sorry.
-/
import Derived.Test.YtlddklhfckdniaaChecked
import GoSem.Claim
import GoSem.ClaimJoined
import GoSem.ClaimMapViews
import Derived.JoinedTies
import Derived.KernelRfl
namespace Go.Proofs.Ytlddklhfckdniaa
/- THE CELL 'sum', in the pinned program and in every row, IS THE sha256 OF THE DUMP (.gsa) THAT YtlddklhfckdniaaProg.lean LOADS. Nothing in Lean hashes anything: it is a label: what it is worth is what the hold of that sum in a sandbox is worth. -/
noncomputable def Try.pinned : Pinned := { name := "ytlddklhfckdniaa", sum := "a7528c5ffe28e995f0637e4efeb23fa393fb430decd98c748cba1f78644d5fa3", checked := Try.checked }
namespace Rows
def none {H : Type} : Left H := { results := [], args := [] }

/-- 'laws.FnExactConstants': WHATEVER THE INPUT: true; the input reads as it did. -/
def fnExactConstantsSpec : ChangeSpec := { name := "fnExactConstants", fn := fun _ => fun
  | [] => { results := [.lit (.bool true)], args := [] }
  | _ => none }
def fnExactConstantsRow : OpenClaim := { program := "ytlddklhfckdniaa", sum := "a7528c5ffe28e995f0637e4efeb23fa393fb430decd98c748cba1f78644d5fa3", func := "loop.example/g00328/laws.FnExactConstants", spec := "fnExactConstants", apart := false }
def FnExactConstantsSaid : Prop := fnExactConstantsRow.holds Try.pinned (OpenSpec.ofChange fnExactConstantsSpec)

/-- ITS FALSE NEIGHBOUR: 'it returns false'. Refute it at one input. -/
def fnExactConstantsWrong : ChangeSpec := { name := "fnExactConstants", fn := fun _ => fun
  | [] => { results := [.lit (.bool false)], args := [] }
  | _ => none }
def FnExactConstantsWrongFalsely : Prop := fnExactConstantsRow.holds Try.pinned (OpenSpec.ofChange fnExactConstantsWrong)

/-- 'laws.FnExactHolds': WHATEVER THE INPUT: true; the input reads as it did. -/
def fnExactHoldsSpec : ChangeSpec := { name := "fnExactHolds", fn := fun _ => fun
  | [d1, d2] => { results := [.lit (.bool true)], args := [d1, d2] }
  | _ => none }
def fnExactHoldsRow : OpenClaim := { program := "ytlddklhfckdniaa", sum := "a7528c5ffe28e995f0637e4efeb23fa393fb430decd98c748cba1f78644d5fa3", func := "loop.example/g00328/laws.FnExactHolds", spec := "fnExactHolds", apart := false }
def FnExactHoldsSaid : Prop := fnExactHoldsRow.holds Try.pinned (OpenSpec.ofChange fnExactHoldsSpec)

/-- ITS FALSE NEIGHBOUR: 'it returns false'. Refute it at one input. -/
def fnExactHoldsWrong : ChangeSpec := { name := "fnExactHolds", fn := fun _ => fun
  | [d1, d2] => { results := [.lit (.bool false)], args := [d1, d2] }
  | _ => none }
def FnExactHoldsWrongFalsely : Prop := fnExactHoldsRow.holds Try.pinned (OpenSpec.ofChange fnExactHoldsWrong)

/-- 'laws.FnExactTermSize': WHATEVER THE INPUT: true; the input reads as it did. -/
def fnExactTermSizeSpec : ChangeSpec := { name := "fnExactTermSize", fn := fun _ => fun
  | [d] => { results := [.lit (.bool true)], args := [d] }
  | _ => none }
def fnExactTermSizeRow : OpenClaim := { program := "ytlddklhfckdniaa", sum := "a7528c5ffe28e995f0637e4efeb23fa393fb430decd98c748cba1f78644d5fa3", func := "loop.example/g00328/laws.FnExactTermSize", spec := "fnExactTermSize", recurses := true, loops := true, apart := false }
def FnExactTermSizeSaid : Prop := fnExactTermSizeRow.holds Try.pinned (OpenSpec.ofChange fnExactTermSizeSpec)

/-- ITS FALSE NEIGHBOUR: 'it returns false'. Refute it at one input. -/
def fnExactTermSizeWrong : ChangeSpec := { name := "fnExactTermSize", fn := fun _ => fun
  | [d] => { results := [.lit (.bool false)], args := [d] }
  | _ => none }
def FnExactTermSizeWrongFalsely : Prop := fnExactTermSizeRow.holds Try.pinned (OpenSpec.ofChange fnExactTermSizeWrong)

/-- 'laws.FnExactSame': WHATEVER THE INPUT: true; the input reads as it did. -/
def fnExactSameSpec : ChangeSpec := { name := "fnExactSame", fn := fun _ => fun
  | [d1, d2] => { results := [.lit (.bool true)], args := [d1, d2] }
  | _ => none }
def fnExactSameRow : OpenClaim := { program := "ytlddklhfckdniaa", sum := "a7528c5ffe28e995f0637e4efeb23fa393fb430decd98c748cba1f78644d5fa3", func := "loop.example/g00328/laws.FnExactSame", spec := "fnExactSame", unfollowed := true, recurses := true, loops := true, apart := false }
def FnExactSameSaid : Prop := fnExactSameRow.holds Try.pinned (OpenSpec.ofChange fnExactSameSpec)

/-- ITS FALSE NEIGHBOUR: 'it returns false'. Refute it at one input. -/
def fnExactSameWrong : ChangeSpec := { name := "fnExactSame", fn := fun _ => fun
  | [d1, d2] => { results := [.lit (.bool false)], args := [d1, d2] }
  | _ => none }
def FnExactSameWrongFalsely : Prop := fnExactSameRow.holds Try.pinned (OpenSpec.ofChange fnExactSameWrong)

/-- 'laws.FnExactBefore': WHATEVER THE INPUT: true; the input reads as it did. -/
def fnExactBeforeSpec : ChangeSpec := { name := "fnExactBefore", fn := fun _ => fun
  | [d1, d2] => { results := [.lit (.bool true)], args := [d1, d2] }
  | _ => none }
def fnExactBeforeRow : OpenClaim := { program := "ytlddklhfckdniaa", sum := "a7528c5ffe28e995f0637e4efeb23fa393fb430decd98c748cba1f78644d5fa3", func := "loop.example/g00328/laws.FnExactBefore", spec := "fnExactBefore", unfollowed := true, recurses := true, loops := true, apart := false }
def FnExactBeforeSaid : Prop := fnExactBeforeRow.holds Try.pinned (OpenSpec.ofChange fnExactBeforeSpec)

/-- ITS FALSE NEIGHBOUR: 'it returns false'. Refute it at one input. -/
def fnExactBeforeWrong : ChangeSpec := { name := "fnExactBefore", fn := fun _ => fun
  | [d1, d2] => { results := [.lit (.bool false)], args := [d1, d2] }
  | _ => none }
def FnExactBeforeWrongFalsely : Prop := fnExactBeforeRow.holds Try.pinned (OpenSpec.ofChange fnExactBeforeWrong)

/-- 'laws.FnExactTermOk': WHATEVER THE INPUT: true; the input reads as it did. -/
def fnExactTermOkSpec : ChangeSpec := { name := "fnExactTermOk", fn := fun _ => fun
  | [d] => { results := [.lit (.bool true)], args := [d] }
  | _ => none }
def fnExactTermOkRow : OpenClaim := { program := "ytlddklhfckdniaa", sum := "a7528c5ffe28e995f0637e4efeb23fa393fb430decd98c748cba1f78644d5fa3", func := "loop.example/g00328/laws.FnExactTermOk", spec := "fnExactTermOk", unfollowed := true, recurses := true, loops := true, apart := false }
def FnExactTermOkSaid : Prop := fnExactTermOkRow.holds Try.pinned (OpenSpec.ofChange fnExactTermOkSpec)

/-- ITS FALSE NEIGHBOUR: 'it returns false'. Refute it at one input. -/
def fnExactTermOkWrong : ChangeSpec := { name := "fnExactTermOk", fn := fun _ => fun
  | [d] => { results := [.lit (.bool false)], args := [d] }
  | _ => none }
def FnExactTermOkWrongFalsely : Prop := fnExactTermOkRow.holds Try.pinned (OpenSpec.ofChange fnExactTermOkWrong)

/-- 'laws.FnExactCacheDrop': WHATEVER THE INPUT: true; the input reads as it did. -/
def fnExactCacheDropSpec : ChangeSpec := { name := "fnExactCacheDrop", fn := fun _ => fun
  | [d1, d2] => { results := [.lit (.bool true)], args := [d1, d2] }
  | _ => none }
def fnExactCacheDropRow : OpenClaim := { program := "ytlddklhfckdniaa", sum := "a7528c5ffe28e995f0637e4efeb23fa393fb430decd98c748cba1f78644d5fa3", func := "loop.example/g00328/laws.FnExactCacheDrop", spec := "fnExactCacheDrop", unfollowed := true, recurses := true, apart := false }
def FnExactCacheDropSaid : Prop := fnExactCacheDropRow.holds Try.pinned (OpenSpec.ofChange fnExactCacheDropSpec)

/-- ITS FALSE NEIGHBOUR: 'it returns false'. Refute it at one input. -/
def fnExactCacheDropWrong : ChangeSpec := { name := "fnExactCacheDrop", fn := fun _ => fun
  | [d1, d2] => { results := [.lit (.bool false)], args := [d1, d2] }
  | _ => none }
def FnExactCacheDropWrongFalsely : Prop := fnExactCacheDropRow.holds Try.pinned (OpenSpec.ofChange fnExactCacheDropWrong)

/-- 'laws.FnExactAtom': WHATEVER THE INPUT: true; the input reads as it did. -/
def fnExactAtomSpec : ChangeSpec := { name := "fnExactAtom", fn := fun _ => fun
  | [d] => { results := [.lit (.bool true)], args := [d] }
  | _ => none }
def fnExactAtomRow : OpenClaim := { program := "ytlddklhfckdniaa", sum := "a7528c5ffe28e995f0637e4efeb23fa393fb430decd98c748cba1f78644d5fa3", func := "loop.example/g00328/laws.FnExactAtom", spec := "fnExactAtom", unfollowed := true, recurses := true, apart := false }
def FnExactAtomSaid : Prop := fnExactAtomRow.holds Try.pinned (OpenSpec.ofChange fnExactAtomSpec)

/-- ITS FALSE NEIGHBOUR: 'it returns false'. Refute it at one input. -/
def fnExactAtomWrong : ChangeSpec := { name := "fnExactAtom", fn := fun _ => fun
  | [d] => { results := [.lit (.bool false)], args := [d] }
  | _ => none }
def FnExactAtomWrongFalsely : Prop := fnExactAtomRow.holds Try.pinned (OpenSpec.ofChange fnExactAtomWrong)

/-- 'laws.FnExactMade': WHATEVER THE INPUT: true; the input reads as it did. -/
def fnExactMadeSpec : ChangeSpec := { name := "fnExactMade", fn := fun _ => fun
  | [d1, d2] => { results := [.lit (.bool true)], args := [d1, d2] }
  | _ => none }
def fnExactMadeRow : OpenClaim := { program := "ytlddklhfckdniaa", sum := "a7528c5ffe28e995f0637e4efeb23fa393fb430decd98c748cba1f78644d5fa3", func := "loop.example/g00328/laws.FnExactMade", spec := "fnExactMade", unfollowed := true, recurses := true, loops := true, apart := false }
def FnExactMadeSaid : Prop := fnExactMadeRow.holds Try.pinned (OpenSpec.ofChange fnExactMadeSpec)

/-- ITS FALSE NEIGHBOUR: 'it returns false'. Refute it at one input. -/
def fnExactMadeWrong : ChangeSpec := { name := "fnExactMade", fn := fun _ => fun
  | [d1, d2] => { results := [.lit (.bool false)], args := [d1, d2] }
  | _ => none }
def FnExactMadeWrongFalsely : Prop := fnExactMadeRow.holds Try.pinned (OpenSpec.ofChange fnExactMadeWrong)

/- THE SECOND FORM. 'bulk': how many values and letters a reading holds, each counted each time it is reached (what is shared counts as often as it is met; a slice's spare places count too). A statement '..UptoSaid' is the law's where the arguments, and the package variables that the reading takes, are together of bulk at most 1048576: NARROWER than '..Said'. Prove '..Said' where nothing that the law and all that it calls make is longer than what came in: it says more and counts as full. Else prove '..UptoSaid'. A law counts once. -/
mutual
def uptoBulk {H : Type} : DataW H → Nat
  | .lit (.string bytes) => bytes.length + 1
  | .lit _ => 1
  | .nil => 1
  | .ptr d => uptoBulk d + 1
  | .slice elems spare => uptoBulkAll elems + uptoBulkAll spare + 1
  | .agg parts => uptoBulkAll parts + 1
  | .iface _ d => uptoBulk d + 1
  | .map entries => uptoBulkEntries entries + 1
  | .held _ => 1
def uptoBulkAll {H : Type} : List (DataW H) → Nat
  | [] => 0
  | d :: r => uptoBulk d + uptoBulkAll r
def uptoBulkEntries {H : Type} : List (Lit × DataW H) → Nat
  | [] => 0
  | x :: r => uptoBulkEntry x + uptoBulkEntries r
def uptoBulkEntry {H : Type} : Lit × DataW H → Nat
  | (.string bytes, d) => bytes.length + uptoBulk d + 1
  | (_, d) => uptoBulk d + 1
 end
def uptoSmall : (H : Type) → List (DataW H) → Bool := fun _ ds => decide (uptoBulkAll ds ≤ 1048576)
def OpenSpec.upto (s : _root_.Go.ChangeSpec) : _root_.Go.OpenSpec := { _root_.Go.OpenSpec.ofChange s with cond := some uptoSmall }

/-- 'laws.FnExactConstants', WHERE WHAT IT READS IS OF BULK AT MOST 1048576: true; the input reads as it did. -/
def fnExactConstantsUptoRow : OpenClaim := { program := "ytlddklhfckdniaa", sum := "a7528c5ffe28e995f0637e4efeb23fa393fb430decd98c748cba1f78644d5fa3", func := "loop.example/g00328/laws.FnExactConstants", spec := "fnExactConstants", apart := false, narrowed := true }
def FnExactConstantsUptoSaid : Prop := fnExactConstantsUptoRow.holds Try.pinned (OpenSpec.upto fnExactConstantsSpec)

/-- 'laws.FnExactHolds', WHERE WHAT IT READS IS OF BULK AT MOST 1048576: true; the input reads as it did. -/
def fnExactHoldsUptoRow : OpenClaim := { program := "ytlddklhfckdniaa", sum := "a7528c5ffe28e995f0637e4efeb23fa393fb430decd98c748cba1f78644d5fa3", func := "loop.example/g00328/laws.FnExactHolds", spec := "fnExactHolds", apart := false, narrowed := true }
def FnExactHoldsUptoSaid : Prop := fnExactHoldsUptoRow.holds Try.pinned (OpenSpec.upto fnExactHoldsSpec)

/-- 'laws.FnExactTermSize', WHERE WHAT IT READS IS OF BULK AT MOST 1048576: true; the input reads as it did. -/
def fnExactTermSizeUptoRow : OpenClaim := { program := "ytlddklhfckdniaa", sum := "a7528c5ffe28e995f0637e4efeb23fa393fb430decd98c748cba1f78644d5fa3", func := "loop.example/g00328/laws.FnExactTermSize", spec := "fnExactTermSize", recurses := true, loops := true, apart := false, narrowed := true }
def FnExactTermSizeUptoSaid : Prop := fnExactTermSizeUptoRow.holds Try.pinned (OpenSpec.upto fnExactTermSizeSpec)

/-- 'laws.FnExactSame', WHERE WHAT IT READS IS OF BULK AT MOST 1048576: true; the input reads as it did. -/
def fnExactSameUptoRow : OpenClaim := { program := "ytlddklhfckdniaa", sum := "a7528c5ffe28e995f0637e4efeb23fa393fb430decd98c748cba1f78644d5fa3", func := "loop.example/g00328/laws.FnExactSame", spec := "fnExactSame", unfollowed := true, recurses := true, loops := true, apart := false, narrowed := true }
def FnExactSameUptoSaid : Prop := fnExactSameUptoRow.holds Try.pinned (OpenSpec.upto fnExactSameSpec)

/-- 'laws.FnExactBefore', WHERE WHAT IT READS IS OF BULK AT MOST 1048576: true; the input reads as it did. -/
def fnExactBeforeUptoRow : OpenClaim := { program := "ytlddklhfckdniaa", sum := "a7528c5ffe28e995f0637e4efeb23fa393fb430decd98c748cba1f78644d5fa3", func := "loop.example/g00328/laws.FnExactBefore", spec := "fnExactBefore", unfollowed := true, recurses := true, loops := true, apart := false, narrowed := true }
def FnExactBeforeUptoSaid : Prop := fnExactBeforeUptoRow.holds Try.pinned (OpenSpec.upto fnExactBeforeSpec)

/-- 'laws.FnExactTermOk', WHERE WHAT IT READS IS OF BULK AT MOST 1048576: true; the input reads as it did. -/
def fnExactTermOkUptoRow : OpenClaim := { program := "ytlddklhfckdniaa", sum := "a7528c5ffe28e995f0637e4efeb23fa393fb430decd98c748cba1f78644d5fa3", func := "loop.example/g00328/laws.FnExactTermOk", spec := "fnExactTermOk", unfollowed := true, recurses := true, loops := true, apart := false, narrowed := true }
def FnExactTermOkUptoSaid : Prop := fnExactTermOkUptoRow.holds Try.pinned (OpenSpec.upto fnExactTermOkSpec)

/-- 'laws.FnExactCacheDrop', WHERE WHAT IT READS IS OF BULK AT MOST 1048576: true; the input reads as it did. -/
def fnExactCacheDropUptoRow : OpenClaim := { program := "ytlddklhfckdniaa", sum := "a7528c5ffe28e995f0637e4efeb23fa393fb430decd98c748cba1f78644d5fa3", func := "loop.example/g00328/laws.FnExactCacheDrop", spec := "fnExactCacheDrop", unfollowed := true, recurses := true, apart := false, narrowed := true }
def FnExactCacheDropUptoSaid : Prop := fnExactCacheDropUptoRow.holds Try.pinned (OpenSpec.upto fnExactCacheDropSpec)

/-- 'laws.FnExactAtom', WHERE WHAT IT READS IS OF BULK AT MOST 1048576: true; the input reads as it did. -/
def fnExactAtomUptoRow : OpenClaim := { program := "ytlddklhfckdniaa", sum := "a7528c5ffe28e995f0637e4efeb23fa393fb430decd98c748cba1f78644d5fa3", func := "loop.example/g00328/laws.FnExactAtom", spec := "fnExactAtom", unfollowed := true, recurses := true, apart := false, narrowed := true }
def FnExactAtomUptoSaid : Prop := fnExactAtomUptoRow.holds Try.pinned (OpenSpec.upto fnExactAtomSpec)

/-- 'laws.FnExactMade', WHERE WHAT IT READS IS OF BULK AT MOST 1048576: true; the input reads as it did. -/
def fnExactMadeUptoRow : OpenClaim := { program := "ytlddklhfckdniaa", sum := "a7528c5ffe28e995f0637e4efeb23fa393fb430decd98c748cba1f78644d5fa3", func := "loop.example/g00328/laws.FnExactMade", spec := "fnExactMade", unfollowed := true, recurses := true, loops := true, apart := false, narrowed := true }
def FnExactMadeUptoSaid : Prop := fnExactMadeUptoRow.holds Try.pinned (OpenSpec.upto fnExactMadeSpec)

end Rows
end Go.Proofs.Ytlddklhfckdniaa
