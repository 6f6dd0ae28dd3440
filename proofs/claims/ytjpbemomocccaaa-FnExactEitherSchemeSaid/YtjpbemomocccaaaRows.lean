/-
  No cell of these rows narrows 'for every input' (looked for: loops, veiled, ifaces, maps, wideKeys, modest, calm, conditions, laid).
  DERIVED. THE GIVEN ROWS OF THIS SEAT. 9 by the template 'for every input the law returns true; each argument reads behind the call as it read before'; 0 by the template 'total and deterministic' (their statements: YtjpbemomocccaaaTotals.lean).
  GIVEN WITH THE SEED: the statements are not yours to turn. If you find one false, say at which input.
  Laid BY PROGRAM, IN A SANDBOX (cutbox-rows.mjs): the forced cells as the released guide's own fill.sh prints them over the translation ba2c31cd7a625474… (all of the seat's roots in one cut). By AI agents, Wed Nov 11 2026. No macro, syntax, notation, axiom, sorry.
-/
import Derived.Test.YtjpbemomocccaaaChecked
import GoSem.Claim
import GoSem.ClaimJoined
import GoSem.ClaimMapViews
import Derived.JoinedTies
import Derived.KernelRfl
namespace Go.Proofs.Ytjpbemomocccaaa
/- THE CELL 'sum', in the pinned program and in every row, IS THE sha256 OF THE DUMP (.gsa) THAT YtjpbemomocccaaaProg.lean LOADS. Nothing in Lean hashes anything: it is a label: what it is worth is what the hold of that sum in a sandbox is worth. -/
noncomputable def Try.pinned : Pinned := { name := "ytjpbemomocccaaa", sum := "ba2c31cd7a6254748a49bd91f215e14f2b4eca80b690ad513f4ddf93a00b0716", checked := Try.checked }
namespace Rows
def none {H : Type} : Left H := { results := [], args := [] }

/-- 'laws.FnExactEchelonOf': WHATEVER THE INPUT: true; the input reads as it did. -/
def fnExactEchelonOfSpec : ChangeSpec := { name := "fnExactEchelonOf", fn := fun _ => fun
  | [d] => { results := [.lit (.bool true)], args := [d] }
  | _ => none }
def fnExactEchelonOfRow : OpenClaim := { program := "ytjpbemomocccaaa", sum := "ba2c31cd7a6254748a49bd91f215e14f2b4eca80b690ad513f4ddf93a00b0716", func := "loop.example/g01117/laws.FnExactEchelonOf", spec := "fnExactEchelonOf", unfollowed := true, recurses := true, apart := false }
def FnExactEchelonOfSaid : Prop := fnExactEchelonOfRow.holds Try.pinned (OpenSpec.ofChange fnExactEchelonOfSpec)

/-- ITS FALSE NEIGHBOUR: 'it returns false'. Refute it at one input. -/
def fnExactEchelonOfWrong : ChangeSpec := { name := "fnExactEchelonOf", fn := fun _ => fun
  | [d] => { results := [.lit (.bool false)], args := [d] }
  | _ => none }
def FnExactEchelonOfWrongFalsely : Prop := fnExactEchelonOfRow.holds Try.pinned (OpenSpec.ofChange fnExactEchelonOfWrong)

/-- 'laws.FnExactKernelOf': WHATEVER THE INPUT: true; the input reads as it did. -/
def fnExactKernelOfSpec : ChangeSpec := { name := "fnExactKernelOf", fn := fun _ => fun
  | [d] => { results := [.lit (.bool true)], args := [d] }
  | _ => none }
def fnExactKernelOfRow : OpenClaim := { program := "ytjpbemomocccaaa", sum := "ba2c31cd7a6254748a49bd91f215e14f2b4eca80b690ad513f4ddf93a00b0716", func := "loop.example/g01117/laws.FnExactKernelOf", spec := "fnExactKernelOf", unfollowed := true, recurses := true, apart := false }
def FnExactKernelOfSaid : Prop := fnExactKernelOfRow.holds Try.pinned (OpenSpec.ofChange fnExactKernelOfSpec)

/-- ITS FALSE NEIGHBOUR: 'it returns false'. Refute it at one input. -/
def fnExactKernelOfWrong : ChangeSpec := { name := "fnExactKernelOf", fn := fun _ => fun
  | [d] => { results := [.lit (.bool false)], args := [d] }
  | _ => none }
def FnExactKernelOfWrongFalsely : Prop := fnExactKernelOfRow.holds Try.pinned (OpenSpec.ofChange fnExactKernelOfWrong)

/-- 'laws.FnExactInverseOf': WHATEVER THE INPUT: true; the input reads as it did. -/
def fnExactInverseOfSpec : ChangeSpec := { name := "fnExactInverseOf", fn := fun _ => fun
  | [d] => { results := [.lit (.bool true)], args := [d] }
  | _ => none }
def fnExactInverseOfRow : OpenClaim := { program := "ytjpbemomocccaaa", sum := "ba2c31cd7a6254748a49bd91f215e14f2b4eca80b690ad513f4ddf93a00b0716", func := "loop.example/g01117/laws.FnExactInverseOf", spec := "fnExactInverseOf", unfollowed := true, recurses := true, apart := false }
def FnExactInverseOfSaid : Prop := fnExactInverseOfRow.holds Try.pinned (OpenSpec.ofChange fnExactInverseOfSpec)

/-- ITS FALSE NEIGHBOUR: 'it returns false'. Refute it at one input. -/
def fnExactInverseOfWrong : ChangeSpec := { name := "fnExactInverseOf", fn := fun _ => fun
  | [d] => { results := [.lit (.bool false)], args := [d] }
  | _ => none }
def FnExactInverseOfWrongFalsely : Prop := fnExactInverseOfRow.holds Try.pinned (OpenSpec.ofChange fnExactInverseOfWrong)

/-- 'laws.FnExactDeterminantOf': WHATEVER THE INPUT: true; the input reads as it did. -/
def fnExactDeterminantOfSpec : ChangeSpec := { name := "fnExactDeterminantOf", fn := fun _ => fun
  | [d] => { results := [.lit (.bool true)], args := [d] }
  | _ => none }
def fnExactDeterminantOfRow : OpenClaim := { program := "ytjpbemomocccaaa", sum := "ba2c31cd7a6254748a49bd91f215e14f2b4eca80b690ad513f4ddf93a00b0716", func := "loop.example/g01117/laws.FnExactDeterminantOf", spec := "fnExactDeterminantOf", unfollowed := true, recurses := true, apart := false }
def FnExactDeterminantOfSaid : Prop := fnExactDeterminantOfRow.holds Try.pinned (OpenSpec.ofChange fnExactDeterminantOfSpec)

/-- ITS FALSE NEIGHBOUR: 'it returns false'. Refute it at one input. -/
def fnExactDeterminantOfWrong : ChangeSpec := { name := "fnExactDeterminantOf", fn := fun _ => fun
  | [d] => { results := [.lit (.bool false)], args := [d] }
  | _ => none }
def FnExactDeterminantOfWrongFalsely : Prop := fnExactDeterminantOfRow.holds Try.pinned (OpenSpec.ofChange fnExactDeterminantOfWrong)

/-- 'laws.FnExactIsSpanned': WHATEVER THE INPUT: true; the input reads as it did. -/
def fnExactIsSpannedSpec : ChangeSpec := { name := "fnExactIsSpanned", fn := fun _ => fun
  | [d1, d2] => { results := [.lit (.bool true)], args := [d1, d2] }
  | _ => none }
def fnExactIsSpannedRow : OpenClaim := { program := "ytjpbemomocccaaa", sum := "ba2c31cd7a6254748a49bd91f215e14f2b4eca80b690ad513f4ddf93a00b0716", func := "loop.example/g01117/laws.FnExactIsSpanned", spec := "fnExactIsSpanned", unfollowed := true, recurses := true, apart := false }
def FnExactIsSpannedSaid : Prop := fnExactIsSpannedRow.holds Try.pinned (OpenSpec.ofChange fnExactIsSpannedSpec)

/-- ITS FALSE NEIGHBOUR: 'it returns false'. Refute it at one input. -/
def fnExactIsSpannedWrong : ChangeSpec := { name := "fnExactIsSpanned", fn := fun _ => fun
  | [d1, d2] => { results := [.lit (.bool false)], args := [d1, d2] }
  | _ => none }
def FnExactIsSpannedWrongFalsely : Prop := fnExactIsSpannedRow.holds Try.pinned (OpenSpec.ofChange fnExactIsSpannedWrong)

/-- 'laws.FnExactCombination': WHATEVER THE INPUT: true; the input reads as it did. -/
def fnExactCombinationSpec : ChangeSpec := { name := "fnExactCombination", fn := fun _ => fun
  | [d1, d2] => { results := [.lit (.bool true)], args := [d1, d2] }
  | _ => none }
def fnExactCombinationRow : OpenClaim := { program := "ytjpbemomocccaaa", sum := "ba2c31cd7a6254748a49bd91f215e14f2b4eca80b690ad513f4ddf93a00b0716", func := "loop.example/g01117/laws.FnExactCombination", spec := "fnExactCombination", unfollowed := true, recurses := true, apart := false }
def FnExactCombinationSaid : Prop := fnExactCombinationRow.holds Try.pinned (OpenSpec.ofChange fnExactCombinationSpec)

/-- ITS FALSE NEIGHBOUR: 'it returns false'. Refute it at one input. -/
def fnExactCombinationWrong : ChangeSpec := { name := "fnExactCombination", fn := fun _ => fun
  | [d1, d2] => { results := [.lit (.bool false)], args := [d1, d2] }
  | _ => none }
def FnExactCombinationWrongFalsely : Prop := fnExactCombinationRow.holds Try.pinned (OpenSpec.ofChange fnExactCombinationWrong)

/-- 'laws.FnExactSolveFor': WHATEVER THE INPUT: true; the input reads as it did. -/
def fnExactSolveForSpec : ChangeSpec := { name := "fnExactSolveFor", fn := fun _ => fun
  | [d1, d2] => { results := [.lit (.bool true)], args := [d1, d2] }
  | _ => none }
def fnExactSolveForRow : OpenClaim := { program := "ytjpbemomocccaaa", sum := "ba2c31cd7a6254748a49bd91f215e14f2b4eca80b690ad513f4ddf93a00b0716", func := "loop.example/g01117/laws.FnExactSolveFor", spec := "fnExactSolveFor", unfollowed := true, recurses := true, apart := false }
def FnExactSolveForSaid : Prop := fnExactSolveForRow.holds Try.pinned (OpenSpec.ofChange fnExactSolveForSpec)

/-- ITS FALSE NEIGHBOUR: 'it returns false'. Refute it at one input. -/
def fnExactSolveForWrong : ChangeSpec := { name := "fnExactSolveFor", fn := fun _ => fun
  | [d1, d2] => { results := [.lit (.bool false)], args := [d1, d2] }
  | _ => none }
def FnExactSolveForWrongFalsely : Prop := fnExactSolveForRow.holds Try.pinned (OpenSpec.ofChange fnExactSolveForWrong)

/-- 'laws.FnCombination': WHATEVER THE INPUT: true; the input reads as it did. -/
def fnCombinationSpec : ChangeSpec := { name := "fnCombination", fn := fun _ => fun
  | [d1, d2] => { results := [.lit (.bool true)], args := [d1, d2] }
  | _ => none }
def fnCombinationRow : OpenClaim := { program := "ytjpbemomocccaaa", sum := "ba2c31cd7a6254748a49bd91f215e14f2b4eca80b690ad513f4ddf93a00b0716", func := "loop.example/g01117/laws.FnCombination", spec := "fnCombination", unfollowed := true, recurses := true, apart := false }
def FnCombinationSaid : Prop := fnCombinationRow.holds Try.pinned (OpenSpec.ofChange fnCombinationSpec)

/-- ITS FALSE NEIGHBOUR: 'it returns false'. Refute it at one input. -/
def fnCombinationWrong : ChangeSpec := { name := "fnCombination", fn := fun _ => fun
  | [d1, d2] => { results := [.lit (.bool false)], args := [d1, d2] }
  | _ => none }
def FnCombinationWrongFalsely : Prop := fnCombinationRow.holds Try.pinned (OpenSpec.ofChange fnCombinationWrong)

/-- 'laws.FnExactEitherScheme': WHATEVER THE INPUT: true; the input reads as it did. -/
def fnExactEitherSchemeSpec : ChangeSpec := { name := "fnExactEitherScheme", fn := fun _ => fun
  | [d1, d2] => { results := [.lit (.bool true)], args := [d1, d2] }
  | _ => none }
def fnExactEitherSchemeRow : OpenClaim := { program := "ytjpbemomocccaaa", sum := "ba2c31cd7a6254748a49bd91f215e14f2b4eca80b690ad513f4ddf93a00b0716", func := "loop.example/g01117/laws.FnExactEitherScheme", spec := "fnExactEitherScheme", unfollowed := true, recurses := true, apart := false }
def FnExactEitherSchemeSaid : Prop := fnExactEitherSchemeRow.holds Try.pinned (OpenSpec.ofChange fnExactEitherSchemeSpec)

/-- ITS FALSE NEIGHBOUR: 'it returns false'. Refute it at one input. -/
def fnExactEitherSchemeWrong : ChangeSpec := { name := "fnExactEitherScheme", fn := fun _ => fun
  | [d1, d2] => { results := [.lit (.bool false)], args := [d1, d2] }
  | _ => none }
def FnExactEitherSchemeWrongFalsely : Prop := fnExactEitherSchemeRow.holds Try.pinned (OpenSpec.ofChange fnExactEitherSchemeWrong)

/- THE SECOND FORM. 'bulk': how many values and letters a reading holds, each counted each time it is reached (what is shared counts as often as it is met; a slice's spare places count too). A statement '..UptoSaid' is the law's where the arguments, and the package variables that the reading takes, are together of bulk at most 1048576: NARROWER than '..Said'. Prove '..Said' where nothing that the law and all that it calls make is longer than what came in: it says more and counts as full. Else prove '..UptoSaid'. A law counts once. -/
mutual
def uptoBulk {H : Type} : DataW H → Nat
  | .lit (.string bytes) => bytes.length + 1
  | .lit _ => 1
  | .nil => 1
  | .ptr d => uptoBulk d + 1
  | .slice elems spare => uptoBulkAll elems + uptoBulkAll spare + 1
  | .agg parts => uptoBulkAll parts + 1
  | .iface _ d => uptoBulk d + 1
  | .map entries => uptoBulkEntries entries + 1
  | .held _ => 1
def uptoBulkAll {H : Type} : List (DataW H) → Nat
  | [] => 0
  | d :: r => uptoBulk d + uptoBulkAll r
def uptoBulkEntries {H : Type} : List (Lit × DataW H) → Nat
  | [] => 0
  | x :: r => uptoBulkEntry x + uptoBulkEntries r
def uptoBulkEntry {H : Type} : Lit × DataW H → Nat
  | (.string bytes, d) => bytes.length + uptoBulk d + 1
  | (_, d) => uptoBulk d + 1
 end
def uptoSmall : (H : Type) → List (DataW H) → Bool := fun _ ds => decide (uptoBulkAll ds ≤ 1048576)
def OpenSpec.upto (s : _root_.Go.ChangeSpec) : _root_.Go.OpenSpec := { _root_.Go.OpenSpec.ofChange s with cond := some uptoSmall }

/-- 'laws.FnExactEchelonOf', WHERE WHAT IT READS IS OF BULK AT MOST 1048576: true; the input reads as it did. -/
def fnExactEchelonOfUptoRow : OpenClaim := { program := "ytjpbemomocccaaa", sum := "ba2c31cd7a6254748a49bd91f215e14f2b4eca80b690ad513f4ddf93a00b0716", func := "loop.example/g01117/laws.FnExactEchelonOf", spec := "fnExactEchelonOf", unfollowed := true, recurses := true, apart := false, narrowed := true }
def FnExactEchelonOfUptoSaid : Prop := fnExactEchelonOfUptoRow.holds Try.pinned (OpenSpec.upto fnExactEchelonOfSpec)

/-- 'laws.FnExactKernelOf', WHERE WHAT IT READS IS OF BULK AT MOST 1048576: true; the input reads as it did. -/
def fnExactKernelOfUptoRow : OpenClaim := { program := "ytjpbemomocccaaa", sum := "ba2c31cd7a6254748a49bd91f215e14f2b4eca80b690ad513f4ddf93a00b0716", func := "loop.example/g01117/laws.FnExactKernelOf", spec := "fnExactKernelOf", unfollowed := true, recurses := true, apart := false, narrowed := true }
def FnExactKernelOfUptoSaid : Prop := fnExactKernelOfUptoRow.holds Try.pinned (OpenSpec.upto fnExactKernelOfSpec)

/-- 'laws.FnExactInverseOf', WHERE WHAT IT READS IS OF BULK AT MOST 1048576: true; the input reads as it did. -/
def fnExactInverseOfUptoRow : OpenClaim := { program := "ytjpbemomocccaaa", sum := "ba2c31cd7a6254748a49bd91f215e14f2b4eca80b690ad513f4ddf93a00b0716", func := "loop.example/g01117/laws.FnExactInverseOf", spec := "fnExactInverseOf", unfollowed := true, recurses := true, apart := false, narrowed := true }
def FnExactInverseOfUptoSaid : Prop := fnExactInverseOfUptoRow.holds Try.pinned (OpenSpec.upto fnExactInverseOfSpec)

/-- 'laws.FnExactDeterminantOf', WHERE WHAT IT READS IS OF BULK AT MOST 1048576: true; the input reads as it did. -/
def fnExactDeterminantOfUptoRow : OpenClaim := { program := "ytjpbemomocccaaa", sum := "ba2c31cd7a6254748a49bd91f215e14f2b4eca80b690ad513f4ddf93a00b0716", func := "loop.example/g01117/laws.FnExactDeterminantOf", spec := "fnExactDeterminantOf", unfollowed := true, recurses := true, apart := false, narrowed := true }
def FnExactDeterminantOfUptoSaid : Prop := fnExactDeterminantOfUptoRow.holds Try.pinned (OpenSpec.upto fnExactDeterminantOfSpec)

/-- 'laws.FnExactIsSpanned', WHERE WHAT IT READS IS OF BULK AT MOST 1048576: true; the input reads as it did. -/
def fnExactIsSpannedUptoRow : OpenClaim := { program := "ytjpbemomocccaaa", sum := "ba2c31cd7a6254748a49bd91f215e14f2b4eca80b690ad513f4ddf93a00b0716", func := "loop.example/g01117/laws.FnExactIsSpanned", spec := "fnExactIsSpanned", unfollowed := true, recurses := true, apart := false, narrowed := true }
def FnExactIsSpannedUptoSaid : Prop := fnExactIsSpannedUptoRow.holds Try.pinned (OpenSpec.upto fnExactIsSpannedSpec)

/-- 'laws.FnExactCombination', WHERE WHAT IT READS IS OF BULK AT MOST 1048576: true; the input reads as it did. -/
def fnExactCombinationUptoRow : OpenClaim := { program := "ytjpbemomocccaaa", sum := "ba2c31cd7a6254748a49bd91f215e14f2b4eca80b690ad513f4ddf93a00b0716", func := "loop.example/g01117/laws.FnExactCombination", spec := "fnExactCombination", unfollowed := true, recurses := true, apart := false, narrowed := true }
def FnExactCombinationUptoSaid : Prop := fnExactCombinationUptoRow.holds Try.pinned (OpenSpec.upto fnExactCombinationSpec)

/-- 'laws.FnExactSolveFor', WHERE WHAT IT READS IS OF BULK AT MOST 1048576: true; the input reads as it did. -/
def fnExactSolveForUptoRow : OpenClaim := { program := "ytjpbemomocccaaa", sum := "ba2c31cd7a6254748a49bd91f215e14f2b4eca80b690ad513f4ddf93a00b0716", func := "loop.example/g01117/laws.FnExactSolveFor", spec := "fnExactSolveFor", unfollowed := true, recurses := true, apart := false, narrowed := true }
def FnExactSolveForUptoSaid : Prop := fnExactSolveForUptoRow.holds Try.pinned (OpenSpec.upto fnExactSolveForSpec)

/-- 'laws.FnCombination', WHERE WHAT IT READS IS OF BULK AT MOST 1048576: true; the input reads as it did. -/
def fnCombinationUptoRow : OpenClaim := { program := "ytjpbemomocccaaa", sum := "ba2c31cd7a6254748a49bd91f215e14f2b4eca80b690ad513f4ddf93a00b0716", func := "loop.example/g01117/laws.FnCombination", spec := "fnCombination", unfollowed := true, recurses := true, apart := false, narrowed := true }
def FnCombinationUptoSaid : Prop := fnCombinationUptoRow.holds Try.pinned (OpenSpec.upto fnCombinationSpec)

/-- 'laws.FnExactEitherScheme', WHERE WHAT IT READS IS OF BULK AT MOST 1048576: true; the input reads as it did. -/
def fnExactEitherSchemeUptoRow : OpenClaim := { program := "ytjpbemomocccaaa", sum := "ba2c31cd7a6254748a49bd91f215e14f2b4eca80b690ad513f4ddf93a00b0716", func := "loop.example/g01117/laws.FnExactEitherScheme", spec := "fnExactEitherScheme", unfollowed := true, recurses := true, apart := false, narrowed := true }
def FnExactEitherSchemeUptoSaid : Prop := fnExactEitherSchemeUptoRow.holds Try.pinned (OpenSpec.upto fnExactEitherSchemeSpec)

end Rows
end Go.Proofs.Ytjpbemomocccaaa
