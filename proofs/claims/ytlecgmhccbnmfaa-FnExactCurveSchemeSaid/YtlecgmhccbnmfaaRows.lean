/-
  No cell of these rows narrows 'for every input' (looked for: loops, veiled, ifaces, maps, wideKeys, modest, calm, conditions, laid).
  DERIVED. THE GIVEN ROWS OF THIS SEAT. 11 by the template 'for every input the law returns true; each argument reads behind the call as it read before'; 0 by the template 'total and deterministic' (their statements: YtlecgmhccbnmfaaTotals.lean).
  GIVEN WITH THE SEED: the statements are not yours to turn. If you find one false, say at which input.
  Laid BY PROGRAM, IN A SANDBOX (cutbox-rows.mjs): the forced cells as the released guide's own fill.sh prints them over the translation 010322718e867cf2… (all of the seat's roots in one cut). By AI agents, Wed Nov 11 2026. No macro, syntax, notation, axiom, sorry.
-/
import Derived.Test.YtlecgmhccbnmfaaChecked
import GoSem.Claim
import GoSem.ClaimJoined
import GoSem.ClaimMapViews
import Derived.JoinedTies
import Derived.KernelRfl
namespace Go.Proofs.Ytlecgmhccbnmfaa
/- THE CELL 'sum', in the pinned program and in every row, IS THE sha256 OF THE DUMP (.gsa) THAT YtlecgmhccbnmfaaProg.lean LOADS. Nothing in Lean hashes anything: it is a label: what it is worth is what the hold of that sum in a sandbox is worth. -/
noncomputable def Try.pinned : Pinned := { name := "ytlecgmhccbnmfaa", sum := "010322718e867cf2c66aa35c4c3e2ca229a7e81dae7fc4da25bc26db2f17473c", checked := Try.checked }
namespace Rows
def none {H : Type} : Left H := { results := [], args := [] }

/-- 'laws.FnExactConstants': WHATEVER THE INPUT: true; the input reads as it did. -/
def fnExactConstantsSpec : ChangeSpec := { name := "fnExactConstants", fn := fun _ => fun
  | [] => { results := [.lit (.bool true)], args := [] }
  | _ => none }
def fnExactConstantsRow : OpenClaim := { program := "ytlecgmhccbnmfaa", sum := "010322718e867cf2c66aa35c4c3e2ca229a7e81dae7fc4da25bc26db2f17473c", func := "loop.example/g01117/laws.FnExactConstants", spec := "fnExactConstants", apart := false }
def FnExactConstantsSaid : Prop := fnExactConstantsRow.holds Try.pinned (OpenSpec.ofChange fnExactConstantsSpec)

/-- ITS FALSE NEIGHBOUR: 'it returns false'. Refute it at one input. -/
def fnExactConstantsWrong : ChangeSpec := { name := "fnExactConstants", fn := fun _ => fun
  | [] => { results := [.lit (.bool false)], args := [] }
  | _ => none }
def FnExactConstantsWrongFalsely : Prop := fnExactConstantsRow.holds Try.pinned (OpenSpec.ofChange fnExactConstantsWrong)

/-- 'laws.FnExactCodeName': WHATEVER THE INPUT: true; the input reads as it did. -/
def fnExactCodeNameSpec : ChangeSpec := { name := "fnExactCodeName", fn := fun _ => fun
  | [d] => { results := [.lit (.bool true)], args := [d] }
  | _ => none }
def fnExactCodeNameRow : OpenClaim := { program := "ytlecgmhccbnmfaa", sum := "010322718e867cf2c66aa35c4c3e2ca229a7e81dae7fc4da25bc26db2f17473c", func := "loop.example/g01117/laws.FnExactCodeName", spec := "fnExactCodeName", apart := false }
def FnExactCodeNameSaid : Prop := fnExactCodeNameRow.holds Try.pinned (OpenSpec.ofChange fnExactCodeNameSpec)

/-- ITS FALSE NEIGHBOUR: 'it returns false'. Refute it at one input. -/
def fnExactCodeNameWrong : ChangeSpec := { name := "fnExactCodeName", fn := fun _ => fun
  | [d] => { results := [.lit (.bool false)], args := [d] }
  | _ => none }
def FnExactCodeNameWrongFalsely : Prop := fnExactCodeNameRow.holds Try.pinned (OpenSpec.ofChange fnExactCodeNameWrong)

/-- 'laws.FnExactIsPrime': WHATEVER THE INPUT: true; the input reads as it did. -/
def fnExactIsPrimeSpec : ChangeSpec := { name := "fnExactIsPrime", fn := fun _ => fun
  | [d] => { results := [.lit (.bool true)], args := [d] }
  | _ => none }
def fnExactIsPrimeRow : OpenClaim := { program := "ytlecgmhccbnmfaa", sum := "010322718e867cf2c66aa35c4c3e2ca229a7e81dae7fc4da25bc26db2f17473c", func := "loop.example/g01117/laws.FnExactIsPrime", spec := "fnExactIsPrime", apart := false }
def FnExactIsPrimeSaid : Prop := fnExactIsPrimeRow.holds Try.pinned (OpenSpec.ofChange fnExactIsPrimeSpec)

/-- ITS FALSE NEIGHBOUR: 'it returns false'. Refute it at one input. -/
def fnExactIsPrimeWrong : ChangeSpec := { name := "fnExactIsPrime", fn := fun _ => fun
  | [d] => { results := [.lit (.bool false)], args := [d] }
  | _ => none }
def FnExactIsPrimeWrongFalsely : Prop := fnExactIsPrimeRow.holds Try.pinned (OpenSpec.ofChange fnExactIsPrimeWrong)

/-- 'laws.FnExactAddMod': WHATEVER THE INPUT: true; the input reads as it did. -/
def fnExactAddModSpec : ChangeSpec := { name := "fnExactAddMod", fn := fun _ => fun
  | [d1, d2, d3] => { results := [.lit (.bool true)], args := [d1, d2, d3] }
  | _ => none }
def fnExactAddModRow : OpenClaim := { program := "ytlecgmhccbnmfaa", sum := "010322718e867cf2c66aa35c4c3e2ca229a7e81dae7fc4da25bc26db2f17473c", func := "loop.example/g01117/laws.FnExactAddMod", spec := "fnExactAddMod", unfollowed := true, recurses := true, apart := false }
def FnExactAddModSaid : Prop := fnExactAddModRow.holds Try.pinned (OpenSpec.ofChange fnExactAddModSpec)

/-- ITS FALSE NEIGHBOUR: 'it returns false'. Refute it at one input. -/
def fnExactAddModWrong : ChangeSpec := { name := "fnExactAddMod", fn := fun _ => fun
  | [d1, d2, d3] => { results := [.lit (.bool false)], args := [d1, d2, d3] }
  | _ => none }
def FnExactAddModWrongFalsely : Prop := fnExactAddModRow.holds Try.pinned (OpenSpec.ofChange fnExactAddModWrong)

/-- 'laws.FnExactMulMod': WHATEVER THE INPUT: true; the input reads as it did. -/
def fnExactMulModSpec : ChangeSpec := { name := "fnExactMulMod", fn := fun _ => fun
  | [d1, d2, d3] => { results := [.lit (.bool true)], args := [d1, d2, d3] }
  | _ => none }
def fnExactMulModRow : OpenClaim := { program := "ytlecgmhccbnmfaa", sum := "010322718e867cf2c66aa35c4c3e2ca229a7e81dae7fc4da25bc26db2f17473c", func := "loop.example/g01117/laws.FnExactMulMod", spec := "fnExactMulMod", unfollowed := true, recurses := true, apart := false }
def FnExactMulModSaid : Prop := fnExactMulModRow.holds Try.pinned (OpenSpec.ofChange fnExactMulModSpec)

/-- ITS FALSE NEIGHBOUR: 'it returns false'. Refute it at one input. -/
def fnExactMulModWrong : ChangeSpec := { name := "fnExactMulMod", fn := fun _ => fun
  | [d1, d2, d3] => { results := [.lit (.bool false)], args := [d1, d2, d3] }
  | _ => none }
def FnExactMulModWrongFalsely : Prop := fnExactMulModRow.holds Try.pinned (OpenSpec.ofChange fnExactMulModWrong)

/-- 'laws.FnExactPowerMod': WHATEVER THE INPUT: true; the input reads as it did. -/
def fnExactPowerModSpec : ChangeSpec := { name := "fnExactPowerMod", fn := fun _ => fun
  | [d1, d2, d3] => { results := [.lit (.bool true)], args := [d1, d2, d3] }
  | _ => none }
def fnExactPowerModRow : OpenClaim := { program := "ytlecgmhccbnmfaa", sum := "010322718e867cf2c66aa35c4c3e2ca229a7e81dae7fc4da25bc26db2f17473c", func := "loop.example/g01117/laws.FnExactPowerMod", spec := "fnExactPowerMod", unfollowed := true, recurses := true, apart := false }
def FnExactPowerModSaid : Prop := fnExactPowerModRow.holds Try.pinned (OpenSpec.ofChange fnExactPowerModSpec)

/-- ITS FALSE NEIGHBOUR: 'it returns false'. Refute it at one input. -/
def fnExactPowerModWrong : ChangeSpec := { name := "fnExactPowerMod", fn := fun _ => fun
  | [d1, d2, d3] => { results := [.lit (.bool false)], args := [d1, d2, d3] }
  | _ => none }
def FnExactPowerModWrongFalsely : Prop := fnExactPowerModRow.holds Try.pinned (OpenSpec.ofChange fnExactPowerModWrong)

/-- 'laws.FnExactInverseMod': WHATEVER THE INPUT: true; the input reads as it did. -/
def fnExactInverseModSpec : ChangeSpec := { name := "fnExactInverseMod", fn := fun _ => fun
  | [d1, d2] => { results := [.lit (.bool true)], args := [d1, d2] }
  | _ => none }
def fnExactInverseModRow : OpenClaim := { program := "ytlecgmhccbnmfaa", sum := "010322718e867cf2c66aa35c4c3e2ca229a7e81dae7fc4da25bc26db2f17473c", func := "loop.example/g01117/laws.FnExactInverseMod", spec := "fnExactInverseMod", unfollowed := true, recurses := true, apart := false }
def FnExactInverseModSaid : Prop := fnExactInverseModRow.holds Try.pinned (OpenSpec.ofChange fnExactInverseModSpec)

/-- ITS FALSE NEIGHBOUR: 'it returns false'. Refute it at one input. -/
def fnExactInverseModWrong : ChangeSpec := { name := "fnExactInverseMod", fn := fun _ => fun
  | [d1, d2] => { results := [.lit (.bool false)], args := [d1, d2] }
  | _ => none }
def FnExactInverseModWrongFalsely : Prop := fnExactInverseModRow.holds Try.pinned (OpenSpec.ofChange fnExactInverseModWrong)

/-- 'laws.FnField': WHATEVER THE INPUT: true; the input reads as it did. -/
def fnFieldSpec : ChangeSpec := { name := "fnField", fn := fun _ => fun
  | [d1, d2] => { results := [.lit (.bool true)], args := [d1, d2] }
  | _ => none }
def fnFieldRow : OpenClaim := { program := "ytlecgmhccbnmfaa", sum := "010322718e867cf2c66aa35c4c3e2ca229a7e81dae7fc4da25bc26db2f17473c", func := "loop.example/g01117/laws.FnField", spec := "fnField", unfollowed := true, recurses := true, apart := false }
def FnFieldSaid : Prop := fnFieldRow.holds Try.pinned (OpenSpec.ofChange fnFieldSpec)

/-- ITS FALSE NEIGHBOUR: 'it returns false'. Refute it at one input. -/
def fnFieldWrong : ChangeSpec := { name := "fnField", fn := fun _ => fun
  | [d1, d2] => { results := [.lit (.bool false)], args := [d1, d2] }
  | _ => none }
def FnFieldWrongFalsely : Prop := fnFieldRow.holds Try.pinned (OpenSpec.ofChange fnFieldWrong)

/-- 'laws.FnExactGroupText': WHATEVER THE INPUT: true; the input reads as it did. -/
def fnExactGroupTextSpec : ChangeSpec := { name := "fnExactGroupText", fn := fun _ => fun
  | [d] => { results := [.lit (.bool true)], args := [d] }
  | _ => none }
def fnExactGroupTextRow : OpenClaim := { program := "ytlecgmhccbnmfaa", sum := "010322718e867cf2c66aa35c4c3e2ca229a7e81dae7fc4da25bc26db2f17473c", func := "loop.example/g01117/laws.FnExactGroupText", spec := "fnExactGroupText", apart := false }
def FnExactGroupTextSaid : Prop := fnExactGroupTextRow.holds Try.pinned (OpenSpec.ofChange fnExactGroupTextSpec)

/-- ITS FALSE NEIGHBOUR: 'it returns false'. Refute it at one input. -/
def fnExactGroupTextWrong : ChangeSpec := { name := "fnExactGroupText", fn := fun _ => fun
  | [d] => { results := [.lit (.bool false)], args := [d] }
  | _ => none }
def FnExactGroupTextWrongFalsely : Prop := fnExactGroupTextRow.holds Try.pinned (OpenSpec.ofChange fnExactGroupTextWrong)

/-- 'laws.FnExactPowersOf': WHATEVER THE INPUT: true; the input reads as it did. -/
def fnExactPowersOfSpec : ChangeSpec := { name := "fnExactPowersOf", fn := fun _ => fun
  | [d1, d2, d3] => { results := [.lit (.bool true)], args := [d1, d2, d3] }
  | _ => none }
def fnExactPowersOfRow : OpenClaim := { program := "ytlecgmhccbnmfaa", sum := "010322718e867cf2c66aa35c4c3e2ca229a7e81dae7fc4da25bc26db2f17473c", func := "loop.example/g01117/laws.FnExactPowersOf", spec := "fnExactPowersOf", unfollowed := true, recurses := true, apart := false }
def FnExactPowersOfSaid : Prop := fnExactPowersOfRow.holds Try.pinned (OpenSpec.ofChange fnExactPowersOfSpec)

/-- ITS FALSE NEIGHBOUR: 'it returns false'. Refute it at one input. -/
def fnExactPowersOfWrong : ChangeSpec := { name := "fnExactPowersOf", fn := fun _ => fun
  | [d1, d2, d3] => { results := [.lit (.bool false)], args := [d1, d2, d3] }
  | _ => none }
def FnExactPowersOfWrongFalsely : Prop := fnExactPowersOfRow.holds Try.pinned (OpenSpec.ofChange fnExactPowersOfWrong)

/-- 'laws.FnExactCurveScheme': WHATEVER THE INPUT: true; the input reads as it did. -/
def fnExactCurveSchemeSpec : ChangeSpec := { name := "fnExactCurveScheme", fn := fun _ => fun
  | [d1, d2, d3] => { results := [.lit (.bool true)], args := [d1, d2, d3] }
  | _ => none }
def fnExactCurveSchemeRow : OpenClaim := { program := "ytlecgmhccbnmfaa", sum := "010322718e867cf2c66aa35c4c3e2ca229a7e81dae7fc4da25bc26db2f17473c", func := "loop.example/g01117/laws.FnExactCurveScheme", spec := "fnExactCurveScheme", unfollowed := true, recurses := true, apart := false }
def FnExactCurveSchemeSaid : Prop := fnExactCurveSchemeRow.holds Try.pinned (OpenSpec.ofChange fnExactCurveSchemeSpec)

/-- ITS FALSE NEIGHBOUR: 'it returns false'. Refute it at one input. -/
def fnExactCurveSchemeWrong : ChangeSpec := { name := "fnExactCurveScheme", fn := fun _ => fun
  | [d1, d2, d3] => { results := [.lit (.bool false)], args := [d1, d2, d3] }
  | _ => none }
def FnExactCurveSchemeWrongFalsely : Prop := fnExactCurveSchemeRow.holds Try.pinned (OpenSpec.ofChange fnExactCurveSchemeWrong)

/- THE SECOND FORM. 'bulk': how many values and letters a reading holds, each counted each time it is reached (what is shared counts as often as it is met; a slice's spare places count too). A statement '..UptoSaid' is the law's where the arguments, and the package variables that the reading takes, are together of bulk at most 1048576: NARROWER than '..Said'. Prove '..Said' where nothing that the law and all that it calls make is longer than what came in: it says more and counts as full. Else prove '..UptoSaid'. A law counts once. -/
mutual
def uptoBulk {H : Type} : DataW H → Nat
  | .lit (.string bytes) => bytes.length + 1
  | .lit _ => 1
  | .nil => 1
  | .ptr d => uptoBulk d + 1
  | .slice elems spare => uptoBulkAll elems + uptoBulkAll spare + 1
  | .agg parts => uptoBulkAll parts + 1
  | .iface _ d => uptoBulk d + 1
  | .map entries => uptoBulkEntries entries + 1
  | .held _ => 1
def uptoBulkAll {H : Type} : List (DataW H) → Nat
  | [] => 0
  | d :: r => uptoBulk d + uptoBulkAll r
def uptoBulkEntries {H : Type} : List (Lit × DataW H) → Nat
  | [] => 0
  | x :: r => uptoBulkEntry x + uptoBulkEntries r
def uptoBulkEntry {H : Type} : Lit × DataW H → Nat
  | (.string bytes, d) => bytes.length + uptoBulk d + 1
  | (_, d) => uptoBulk d + 1
 end
def uptoSmall : (H : Type) → List (DataW H) → Bool := fun _ ds => decide (uptoBulkAll ds ≤ 1048576)
def OpenSpec.upto (s : _root_.Go.ChangeSpec) : _root_.Go.OpenSpec := { _root_.Go.OpenSpec.ofChange s with cond := some uptoSmall }

/-- 'laws.FnExactConstants', WHERE WHAT IT READS IS OF BULK AT MOST 1048576: true; the input reads as it did. -/
def fnExactConstantsUptoRow : OpenClaim := { program := "ytlecgmhccbnmfaa", sum := "010322718e867cf2c66aa35c4c3e2ca229a7e81dae7fc4da25bc26db2f17473c", func := "loop.example/g01117/laws.FnExactConstants", spec := "fnExactConstants", apart := false, narrowed := true }
def FnExactConstantsUptoSaid : Prop := fnExactConstantsUptoRow.holds Try.pinned (OpenSpec.upto fnExactConstantsSpec)

/-- 'laws.FnExactCodeName', WHERE WHAT IT READS IS OF BULK AT MOST 1048576: true; the input reads as it did. -/
def fnExactCodeNameUptoRow : OpenClaim := { program := "ytlecgmhccbnmfaa", sum := "010322718e867cf2c66aa35c4c3e2ca229a7e81dae7fc4da25bc26db2f17473c", func := "loop.example/g01117/laws.FnExactCodeName", spec := "fnExactCodeName", apart := false, narrowed := true }
def FnExactCodeNameUptoSaid : Prop := fnExactCodeNameUptoRow.holds Try.pinned (OpenSpec.upto fnExactCodeNameSpec)

/-- 'laws.FnExactIsPrime', WHERE WHAT IT READS IS OF BULK AT MOST 1048576: true; the input reads as it did. -/
def fnExactIsPrimeUptoRow : OpenClaim := { program := "ytlecgmhccbnmfaa", sum := "010322718e867cf2c66aa35c4c3e2ca229a7e81dae7fc4da25bc26db2f17473c", func := "loop.example/g01117/laws.FnExactIsPrime", spec := "fnExactIsPrime", apart := false, narrowed := true }
def FnExactIsPrimeUptoSaid : Prop := fnExactIsPrimeUptoRow.holds Try.pinned (OpenSpec.upto fnExactIsPrimeSpec)

/-- 'laws.FnExactAddMod', WHERE WHAT IT READS IS OF BULK AT MOST 1048576: true; the input reads as it did. -/
def fnExactAddModUptoRow : OpenClaim := { program := "ytlecgmhccbnmfaa", sum := "010322718e867cf2c66aa35c4c3e2ca229a7e81dae7fc4da25bc26db2f17473c", func := "loop.example/g01117/laws.FnExactAddMod", spec := "fnExactAddMod", unfollowed := true, recurses := true, apart := false, narrowed := true }
def FnExactAddModUptoSaid : Prop := fnExactAddModUptoRow.holds Try.pinned (OpenSpec.upto fnExactAddModSpec)

/-- 'laws.FnExactMulMod', WHERE WHAT IT READS IS OF BULK AT MOST 1048576: true; the input reads as it did. -/
def fnExactMulModUptoRow : OpenClaim := { program := "ytlecgmhccbnmfaa", sum := "010322718e867cf2c66aa35c4c3e2ca229a7e81dae7fc4da25bc26db2f17473c", func := "loop.example/g01117/laws.FnExactMulMod", spec := "fnExactMulMod", unfollowed := true, recurses := true, apart := false, narrowed := true }
def FnExactMulModUptoSaid : Prop := fnExactMulModUptoRow.holds Try.pinned (OpenSpec.upto fnExactMulModSpec)

/-- 'laws.FnExactPowerMod', WHERE WHAT IT READS IS OF BULK AT MOST 1048576: true; the input reads as it did. -/
def fnExactPowerModUptoRow : OpenClaim := { program := "ytlecgmhccbnmfaa", sum := "010322718e867cf2c66aa35c4c3e2ca229a7e81dae7fc4da25bc26db2f17473c", func := "loop.example/g01117/laws.FnExactPowerMod", spec := "fnExactPowerMod", unfollowed := true, recurses := true, apart := false, narrowed := true }
def FnExactPowerModUptoSaid : Prop := fnExactPowerModUptoRow.holds Try.pinned (OpenSpec.upto fnExactPowerModSpec)

/-- 'laws.FnExactInverseMod', WHERE WHAT IT READS IS OF BULK AT MOST 1048576: true; the input reads as it did. -/
def fnExactInverseModUptoRow : OpenClaim := { program := "ytlecgmhccbnmfaa", sum := "010322718e867cf2c66aa35c4c3e2ca229a7e81dae7fc4da25bc26db2f17473c", func := "loop.example/g01117/laws.FnExactInverseMod", spec := "fnExactInverseMod", unfollowed := true, recurses := true, apart := false, narrowed := true }
def FnExactInverseModUptoSaid : Prop := fnExactInverseModUptoRow.holds Try.pinned (OpenSpec.upto fnExactInverseModSpec)

/-- 'laws.FnField', WHERE WHAT IT READS IS OF BULK AT MOST 1048576: true; the input reads as it did. -/
def fnFieldUptoRow : OpenClaim := { program := "ytlecgmhccbnmfaa", sum := "010322718e867cf2c66aa35c4c3e2ca229a7e81dae7fc4da25bc26db2f17473c", func := "loop.example/g01117/laws.FnField", spec := "fnField", unfollowed := true, recurses := true, apart := false, narrowed := true }
def FnFieldUptoSaid : Prop := fnFieldUptoRow.holds Try.pinned (OpenSpec.upto fnFieldSpec)

/-- 'laws.FnExactGroupText', WHERE WHAT IT READS IS OF BULK AT MOST 1048576: true; the input reads as it did. -/
def fnExactGroupTextUptoRow : OpenClaim := { program := "ytlecgmhccbnmfaa", sum := "010322718e867cf2c66aa35c4c3e2ca229a7e81dae7fc4da25bc26db2f17473c", func := "loop.example/g01117/laws.FnExactGroupText", spec := "fnExactGroupText", apart := false, narrowed := true }
def FnExactGroupTextUptoSaid : Prop := fnExactGroupTextUptoRow.holds Try.pinned (OpenSpec.upto fnExactGroupTextSpec)

/-- 'laws.FnExactPowersOf', WHERE WHAT IT READS IS OF BULK AT MOST 1048576: true; the input reads as it did. -/
def fnExactPowersOfUptoRow : OpenClaim := { program := "ytlecgmhccbnmfaa", sum := "010322718e867cf2c66aa35c4c3e2ca229a7e81dae7fc4da25bc26db2f17473c", func := "loop.example/g01117/laws.FnExactPowersOf", spec := "fnExactPowersOf", unfollowed := true, recurses := true, apart := false, narrowed := true }
def FnExactPowersOfUptoSaid : Prop := fnExactPowersOfUptoRow.holds Try.pinned (OpenSpec.upto fnExactPowersOfSpec)

/-- 'laws.FnExactCurveScheme', WHERE WHAT IT READS IS OF BULK AT MOST 1048576: true; the input reads as it did. -/
def fnExactCurveSchemeUptoRow : OpenClaim := { program := "ytlecgmhccbnmfaa", sum := "010322718e867cf2c66aa35c4c3e2ca229a7e81dae7fc4da25bc26db2f17473c", func := "loop.example/g01117/laws.FnExactCurveScheme", spec := "fnExactCurveScheme", unfollowed := true, recurses := true, apart := false, narrowed := true }
def FnExactCurveSchemeUptoSaid : Prop := fnExactCurveSchemeUptoRow.holds Try.pinned (OpenSpec.upto fnExactCurveSchemeSpec)

end Rows
end Go.Proofs.Ytlecgmhccbnmfaa
