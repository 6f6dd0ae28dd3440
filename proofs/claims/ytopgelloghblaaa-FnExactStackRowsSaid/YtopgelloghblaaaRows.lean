/-
  No cell of these rows narrows 'for every input' (looked for: loops, veiled, ifaces, maps, wideKeys, modest, calm, conditions, laid).
  DERIVED. THE GIVEN ROWS OF THIS SEAT. 12 by the template 'for every input the law returns true; each argument reads behind the call as it read before'; 0 by the template 'total and deterministic' (their statements: YtopgelloghblaaaTotals.lean).
  GIVEN WITH THE SEED: the statements are not yours to turn. If you find one false, say at which input.
  Laid BY PROGRAM, IN A SANDBOX (cutbox-rows.mjs): the forced cells as the released guide's own fill.sh prints them over the translation 2b12df0b3c9e4cd2… (all of the seat's roots in one cut). By AI agents, Wed Nov 11 2026. No macro, syntax, notation, axiom, sorry.
-/
import Derived.Test.YtopgelloghblaaaChecked
import GoSem.Claim
import GoSem.ClaimJoined
import GoSem.ClaimMapViews
import Derived.JoinedTies
import Derived.KernelRfl
namespace Go.Proofs.Ytopgelloghblaaa
/- THE CELL 'sum', in the pinned program and in every row, IS THE sha256 OF THE DUMP (.gsa) THAT YtopgelloghblaaaProg.lean LOADS. Nothing in Lean hashes anything: it is a label: what it is worth is what the hold of that sum in a sandbox is worth. -/
noncomputable def Try.pinned : Pinned := { name := "ytopgelloghblaaa", sum := "2b12df0b3c9e4cd2571636685e821722e4dd009a74a15cbba1f9336fd551e739", checked := Try.checked }
namespace Rows
def none {H : Type} : Left H := { results := [], args := [] }

/-- 'laws.FnExactValidMatrix': WHATEVER THE INPUT: true; the input reads as it did. -/
def fnExactValidMatrixSpec : ChangeSpec := { name := "fnExactValidMatrix", fn := fun _ => fun
  | [d] => { results := [.lit (.bool true)], args := [d] }
  | _ => none }
def fnExactValidMatrixRow : OpenClaim := { program := "ytopgelloghblaaa", sum := "2b12df0b3c9e4cd2571636685e821722e4dd009a74a15cbba1f9336fd551e739", func := "loop.example/g01117/laws.FnExactValidMatrix", spec := "fnExactValidMatrix", unfollowed := true, recurses := true, apart := false }
def FnExactValidMatrixSaid : Prop := fnExactValidMatrixRow.holds Try.pinned (OpenSpec.ofChange fnExactValidMatrixSpec)

/-- ITS FALSE NEIGHBOUR: 'it returns false'. Refute it at one input. -/
def fnExactValidMatrixWrong : ChangeSpec := { name := "fnExactValidMatrix", fn := fun _ => fun
  | [d] => { results := [.lit (.bool false)], args := [d] }
  | _ => none }
def FnExactValidMatrixWrongFalsely : Prop := fnExactValidMatrixRow.holds Try.pinned (OpenSpec.ofChange fnExactValidMatrixWrong)

/-- 'laws.FnExactSameMatrix': WHATEVER THE INPUT: true; the input reads as it did. -/
def fnExactSameMatrixSpec : ChangeSpec := { name := "fnExactSameMatrix", fn := fun _ => fun
  | [d1, d2] => { results := [.lit (.bool true)], args := [d1, d2] }
  | _ => none }
def fnExactSameMatrixRow : OpenClaim := { program := "ytopgelloghblaaa", sum := "2b12df0b3c9e4cd2571636685e821722e4dd009a74a15cbba1f9336fd551e739", func := "loop.example/g01117/laws.FnExactSameMatrix", spec := "fnExactSameMatrix", unfollowed := true, recurses := true, apart := false }
def FnExactSameMatrixSaid : Prop := fnExactSameMatrixRow.holds Try.pinned (OpenSpec.ofChange fnExactSameMatrixSpec)

/-- ITS FALSE NEIGHBOUR: 'it returns false'. Refute it at one input. -/
def fnExactSameMatrixWrong : ChangeSpec := { name := "fnExactSameMatrix", fn := fun _ => fun
  | [d1, d2] => { results := [.lit (.bool false)], args := [d1, d2] }
  | _ => none }
def FnExactSameMatrixWrongFalsely : Prop := fnExactSameMatrixRow.holds Try.pinned (OpenSpec.ofChange fnExactSameMatrixWrong)

/-- 'laws.FnExactRowsAt': WHATEVER THE INPUT: true; the input reads as it did. -/
def fnExactRowsAtSpec : ChangeSpec := { name := "fnExactRowsAt", fn := fun _ => fun
  | [d1, d2] => { results := [.lit (.bool true)], args := [d1, d2] }
  | _ => none }
def fnExactRowsAtRow : OpenClaim := { program := "ytopgelloghblaaa", sum := "2b12df0b3c9e4cd2571636685e821722e4dd009a74a15cbba1f9336fd551e739", func := "loop.example/g01117/laws.FnExactRowsAt", spec := "fnExactRowsAt", unfollowed := true, recurses := true, apart := false }
def FnExactRowsAtSaid : Prop := fnExactRowsAtRow.holds Try.pinned (OpenSpec.ofChange fnExactRowsAtSpec)

/-- ITS FALSE NEIGHBOUR: 'it returns false'. Refute it at one input. -/
def fnExactRowsAtWrong : ChangeSpec := { name := "fnExactRowsAt", fn := fun _ => fun
  | [d1, d2] => { results := [.lit (.bool false)], args := [d1, d2] }
  | _ => none }
def FnExactRowsAtWrongFalsely : Prop := fnExactRowsAtRow.holds Try.pinned (OpenSpec.ofChange fnExactRowsAtWrong)

/-- 'laws.FnExactTransposeOf': WHATEVER THE INPUT: true; the input reads as it did. -/
def fnExactTransposeOfSpec : ChangeSpec := { name := "fnExactTransposeOf", fn := fun _ => fun
  | [d] => { results := [.lit (.bool true)], args := [d] }
  | _ => none }
def fnExactTransposeOfRow : OpenClaim := { program := "ytopgelloghblaaa", sum := "2b12df0b3c9e4cd2571636685e821722e4dd009a74a15cbba1f9336fd551e739", func := "loop.example/g01117/laws.FnExactTransposeOf", spec := "fnExactTransposeOf", unfollowed := true, recurses := true, apart := false }
def FnExactTransposeOfSaid : Prop := fnExactTransposeOfRow.holds Try.pinned (OpenSpec.ofChange fnExactTransposeOfSpec)

/-- ITS FALSE NEIGHBOUR: 'it returns false'. Refute it at one input. -/
def fnExactTransposeOfWrong : ChangeSpec := { name := "fnExactTransposeOf", fn := fun _ => fun
  | [d] => { results := [.lit (.bool false)], args := [d] }
  | _ => none }
def FnExactTransposeOfWrongFalsely : Prop := fnExactTransposeOfRow.holds Try.pinned (OpenSpec.ofChange fnExactTransposeOfWrong)

/-- 'laws.FnExactStackRows': WHATEVER THE INPUT: true; the input reads as it did. -/
def fnExactStackRowsSpec : ChangeSpec := { name := "fnExactStackRows", fn := fun _ => fun
  | [d1, d2] => { results := [.lit (.bool true)], args := [d1, d2] }
  | _ => none }
def fnExactStackRowsRow : OpenClaim := { program := "ytopgelloghblaaa", sum := "2b12df0b3c9e4cd2571636685e821722e4dd009a74a15cbba1f9336fd551e739", func := "loop.example/g01117/laws.FnExactStackRows", spec := "fnExactStackRows", unfollowed := true, recurses := true, apart := false }
def FnExactStackRowsSaid : Prop := fnExactStackRowsRow.holds Try.pinned (OpenSpec.ofChange fnExactStackRowsSpec)

/-- ITS FALSE NEIGHBOUR: 'it returns false'. Refute it at one input. -/
def fnExactStackRowsWrong : ChangeSpec := { name := "fnExactStackRows", fn := fun _ => fun
  | [d1, d2] => { results := [.lit (.bool false)], args := [d1, d2] }
  | _ => none }
def FnExactStackRowsWrongFalsely : Prop := fnExactStackRowsRow.holds Try.pinned (OpenSpec.ofChange fnExactStackRowsWrong)

/-- 'laws.FnExactProductOf': WHATEVER THE INPUT: true; the input reads as it did. -/
def fnExactProductOfSpec : ChangeSpec := { name := "fnExactProductOf", fn := fun _ => fun
  | [d1, d2] => { results := [.lit (.bool true)], args := [d1, d2] }
  | _ => none }
def fnExactProductOfRow : OpenClaim := { program := "ytopgelloghblaaa", sum := "2b12df0b3c9e4cd2571636685e821722e4dd009a74a15cbba1f9336fd551e739", func := "loop.example/g01117/laws.FnExactProductOf", spec := "fnExactProductOf", unfollowed := true, recurses := true, apart := false }
def FnExactProductOfSaid : Prop := fnExactProductOfRow.holds Try.pinned (OpenSpec.ofChange fnExactProductOfSpec)

/-- ITS FALSE NEIGHBOUR: 'it returns false'. Refute it at one input. -/
def fnExactProductOfWrong : ChangeSpec := { name := "fnExactProductOf", fn := fun _ => fun
  | [d1, d2] => { results := [.lit (.bool false)], args := [d1, d2] }
  | _ => none }
def FnExactProductOfWrongFalsely : Prop := fnExactProductOfRow.holds Try.pinned (OpenSpec.ofChange fnExactProductOfWrong)

/-- 'laws.FnExactSharesOf': WHATEVER THE INPUT: true; the input reads as it did. -/
def fnExactSharesOfSpec : ChangeSpec := { name := "fnExactSharesOf", fn := fun _ => fun
  | [d1, d2, d3] => { results := [.lit (.bool true)], args := [d1, d2, d3] }
  | _ => none }
def fnExactSharesOfRow : OpenClaim := { program := "ytopgelloghblaaa", sum := "2b12df0b3c9e4cd2571636685e821722e4dd009a74a15cbba1f9336fd551e739", func := "loop.example/g01117/laws.FnExactSharesOf", spec := "fnExactSharesOf", unfollowed := true, recurses := true, apart := false }
def FnExactSharesOfSaid : Prop := fnExactSharesOfRow.holds Try.pinned (OpenSpec.ofChange fnExactSharesOfSpec)

/-- ITS FALSE NEIGHBOUR: 'it returns false'. Refute it at one input. -/
def fnExactSharesOfWrong : ChangeSpec := { name := "fnExactSharesOf", fn := fun _ => fun
  | [d1, d2, d3] => { results := [.lit (.bool false)], args := [d1, d2, d3] }
  | _ => none }
def FnExactSharesOfWrongFalsely : Prop := fnExactSharesOfRow.holds Try.pinned (OpenSpec.ofChange fnExactSharesOfWrong)

/-- 'laws.FnExactSizesOf': WHATEVER THE INPUT: true; the input reads as it did. -/
def fnExactSizesOfSpec : ChangeSpec := { name := "fnExactSizesOf", fn := fun _ => fun
  | [d] => { results := [.lit (.bool true)], args := [d] }
  | _ => none }
def fnExactSizesOfRow : OpenClaim := { program := "ytopgelloghblaaa", sum := "2b12df0b3c9e4cd2571636685e821722e4dd009a74a15cbba1f9336fd551e739", func := "loop.example/g01117/laws.FnExactSizesOf", spec := "fnExactSizesOf", unfollowed := true, recurses := true, apart := false }
def FnExactSizesOfSaid : Prop := fnExactSizesOfRow.holds Try.pinned (OpenSpec.ofChange fnExactSizesOfSpec)

/-- ITS FALSE NEIGHBOUR: 'it returns false'. Refute it at one input. -/
def fnExactSizesOfWrong : ChangeSpec := { name := "fnExactSizesOf", fn := fun _ => fun
  | [d] => { results := [.lit (.bool false)], args := [d] }
  | _ => none }
def FnExactSizesOfWrongFalsely : Prop := fnExactSizesOfRow.holds Try.pinned (OpenSpec.ofChange fnExactSizesOfWrong)

/-- 'laws.FnExactValidScheme': WHATEVER THE INPUT: true; the input reads as it did. -/
def fnExactValidSchemeSpec : ChangeSpec := { name := "fnExactValidScheme", fn := fun _ => fun
  | [d] => { results := [.lit (.bool true)], args := [d] }
  | _ => none }
def fnExactValidSchemeRow : OpenClaim := { program := "ytopgelloghblaaa", sum := "2b12df0b3c9e4cd2571636685e821722e4dd009a74a15cbba1f9336fd551e739", func := "loop.example/g01117/laws.FnExactValidScheme", spec := "fnExactValidScheme", unfollowed := true, recurses := true, apart := false }
def FnExactValidSchemeSaid : Prop := fnExactValidSchemeRow.holds Try.pinned (OpenSpec.ofChange fnExactValidSchemeSpec)

/-- ITS FALSE NEIGHBOUR: 'it returns false'. Refute it at one input. -/
def fnExactValidSchemeWrong : ChangeSpec := { name := "fnExactValidScheme", fn := fun _ => fun
  | [d] => { results := [.lit (.bool false)], args := [d] }
  | _ => none }
def FnExactValidSchemeWrongFalsely : Prop := fnExactValidSchemeRow.holds Try.pinned (OpenSpec.ofChange fnExactValidSchemeWrong)

/-- 'laws.FnExactSameScheme': WHATEVER THE INPUT: true; the input reads as it did. -/
def fnExactSameSchemeSpec : ChangeSpec := { name := "fnExactSameScheme", fn := fun _ => fun
  | [d1, d2] => { results := [.lit (.bool true)], args := [d1, d2] }
  | _ => none }
def fnExactSameSchemeRow : OpenClaim := { program := "ytopgelloghblaaa", sum := "2b12df0b3c9e4cd2571636685e821722e4dd009a74a15cbba1f9336fd551e739", func := "loop.example/g01117/laws.FnExactSameScheme", spec := "fnExactSameScheme", unfollowed := true, recurses := true, apart := false }
def FnExactSameSchemeSaid : Prop := fnExactSameSchemeRow.holds Try.pinned (OpenSpec.ofChange fnExactSameSchemeSpec)

/-- ITS FALSE NEIGHBOUR: 'it returns false'. Refute it at one input. -/
def fnExactSameSchemeWrong : ChangeSpec := { name := "fnExactSameScheme", fn := fun _ => fun
  | [d1, d2] => { results := [.lit (.bool false)], args := [d1, d2] }
  | _ => none }
def FnExactSameSchemeWrongFalsely : Prop := fnExactSameSchemeRow.holds Try.pinned (OpenSpec.ofChange fnExactSameSchemeWrong)

/-- 'laws.FnExactRowsHeld': WHATEVER THE INPUT: true; the input reads as it did. -/
def fnExactRowsHeldSpec : ChangeSpec := { name := "fnExactRowsHeld", fn := fun _ => fun
  | [d1, d2] => { results := [.lit (.bool true)], args := [d1, d2] }
  | _ => none }
def fnExactRowsHeldRow : OpenClaim := { program := "ytopgelloghblaaa", sum := "2b12df0b3c9e4cd2571636685e821722e4dd009a74a15cbba1f9336fd551e739", func := "loop.example/g01117/laws.FnExactRowsHeld", spec := "fnExactRowsHeld", unfollowed := true, recurses := true, apart := false }
def FnExactRowsHeldSaid : Prop := fnExactRowsHeldRow.holds Try.pinned (OpenSpec.ofChange fnExactRowsHeldSpec)

/-- ITS FALSE NEIGHBOUR: 'it returns false'. Refute it at one input. -/
def fnExactRowsHeldWrong : ChangeSpec := { name := "fnExactRowsHeld", fn := fun _ => fun
  | [d1, d2] => { results := [.lit (.bool false)], args := [d1, d2] }
  | _ => none }
def FnExactRowsHeldWrongFalsely : Prop := fnExactRowsHeldRow.holds Try.pinned (OpenSpec.ofChange fnExactRowsHeldWrong)

/-- 'laws.FnLinear': WHATEVER THE INPUT: true; the input reads as it did. -/
def fnLinearSpec : ChangeSpec := { name := "fnLinear", fn := fun _ => fun
  | [d1, d2] => { results := [.lit (.bool true)], args := [d1, d2] }
  | _ => none }
def fnLinearRow : OpenClaim := { program := "ytopgelloghblaaa", sum := "2b12df0b3c9e4cd2571636685e821722e4dd009a74a15cbba1f9336fd551e739", func := "loop.example/g01117/laws.FnLinear", spec := "fnLinear", unfollowed := true, recurses := true, apart := false }
def FnLinearSaid : Prop := fnLinearRow.holds Try.pinned (OpenSpec.ofChange fnLinearSpec)

/-- ITS FALSE NEIGHBOUR: 'it returns false'. Refute it at one input. -/
def fnLinearWrong : ChangeSpec := { name := "fnLinear", fn := fun _ => fun
  | [d1, d2] => { results := [.lit (.bool false)], args := [d1, d2] }
  | _ => none }
def FnLinearWrongFalsely : Prop := fnLinearRow.holds Try.pinned (OpenSpec.ofChange fnLinearWrong)

/- THE SECOND FORM. 'bulk': how many values and letters a reading holds, each counted each time it is reached (what is shared counts as often as it is met; a slice's spare places count too). A statement '..UptoSaid' is the law's where the arguments, and the package variables that the reading takes, are together of bulk at most 1048576: NARROWER than '..Said'. Prove '..Said' where nothing that the law and all that it calls make is longer than what came in: it says more and counts as full. Else prove '..UptoSaid'. A law counts once. -/
mutual
def uptoBulk {H : Type} : DataW H → Nat
  | .lit (.string bytes) => bytes.length + 1
  | .lit _ => 1
  | .nil => 1
  | .ptr d => uptoBulk d + 1
  | .slice elems spare => uptoBulkAll elems + uptoBulkAll spare + 1
  | .agg parts => uptoBulkAll parts + 1
  | .iface _ d => uptoBulk d + 1
  | .map entries => uptoBulkEntries entries + 1
  | .held _ => 1
def uptoBulkAll {H : Type} : List (DataW H) → Nat
  | [] => 0
  | d :: r => uptoBulk d + uptoBulkAll r
def uptoBulkEntries {H : Type} : List (Lit × DataW H) → Nat
  | [] => 0
  | x :: r => uptoBulkEntry x + uptoBulkEntries r
def uptoBulkEntry {H : Type} : Lit × DataW H → Nat
  | (.string bytes, d) => bytes.length + uptoBulk d + 1
  | (_, d) => uptoBulk d + 1
 end
def uptoSmall : (H : Type) → List (DataW H) → Bool := fun _ ds => decide (uptoBulkAll ds ≤ 1048576)
def OpenSpec.upto (s : _root_.Go.ChangeSpec) : _root_.Go.OpenSpec := { _root_.Go.OpenSpec.ofChange s with cond := some uptoSmall }

/-- 'laws.FnExactValidMatrix', WHERE WHAT IT READS IS OF BULK AT MOST 1048576: true; the input reads as it did. -/
def fnExactValidMatrixUptoRow : OpenClaim := { program := "ytopgelloghblaaa", sum := "2b12df0b3c9e4cd2571636685e821722e4dd009a74a15cbba1f9336fd551e739", func := "loop.example/g01117/laws.FnExactValidMatrix", spec := "fnExactValidMatrix", unfollowed := true, recurses := true, apart := false, narrowed := true }
def FnExactValidMatrixUptoSaid : Prop := fnExactValidMatrixUptoRow.holds Try.pinned (OpenSpec.upto fnExactValidMatrixSpec)

/-- 'laws.FnExactSameMatrix', WHERE WHAT IT READS IS OF BULK AT MOST 1048576: true; the input reads as it did. -/
def fnExactSameMatrixUptoRow : OpenClaim := { program := "ytopgelloghblaaa", sum := "2b12df0b3c9e4cd2571636685e821722e4dd009a74a15cbba1f9336fd551e739", func := "loop.example/g01117/laws.FnExactSameMatrix", spec := "fnExactSameMatrix", unfollowed := true, recurses := true, apart := false, narrowed := true }
def FnExactSameMatrixUptoSaid : Prop := fnExactSameMatrixUptoRow.holds Try.pinned (OpenSpec.upto fnExactSameMatrixSpec)

/-- 'laws.FnExactRowsAt', WHERE WHAT IT READS IS OF BULK AT MOST 1048576: true; the input reads as it did. -/
def fnExactRowsAtUptoRow : OpenClaim := { program := "ytopgelloghblaaa", sum := "2b12df0b3c9e4cd2571636685e821722e4dd009a74a15cbba1f9336fd551e739", func := "loop.example/g01117/laws.FnExactRowsAt", spec := "fnExactRowsAt", unfollowed := true, recurses := true, apart := false, narrowed := true }
def FnExactRowsAtUptoSaid : Prop := fnExactRowsAtUptoRow.holds Try.pinned (OpenSpec.upto fnExactRowsAtSpec)

/-- 'laws.FnExactTransposeOf', WHERE WHAT IT READS IS OF BULK AT MOST 1048576: true; the input reads as it did. -/
def fnExactTransposeOfUptoRow : OpenClaim := { program := "ytopgelloghblaaa", sum := "2b12df0b3c9e4cd2571636685e821722e4dd009a74a15cbba1f9336fd551e739", func := "loop.example/g01117/laws.FnExactTransposeOf", spec := "fnExactTransposeOf", unfollowed := true, recurses := true, apart := false, narrowed := true }
def FnExactTransposeOfUptoSaid : Prop := fnExactTransposeOfUptoRow.holds Try.pinned (OpenSpec.upto fnExactTransposeOfSpec)

/-- 'laws.FnExactStackRows', WHERE WHAT IT READS IS OF BULK AT MOST 1048576: true; the input reads as it did. -/
def fnExactStackRowsUptoRow : OpenClaim := { program := "ytopgelloghblaaa", sum := "2b12df0b3c9e4cd2571636685e821722e4dd009a74a15cbba1f9336fd551e739", func := "loop.example/g01117/laws.FnExactStackRows", spec := "fnExactStackRows", unfollowed := true, recurses := true, apart := false, narrowed := true }
def FnExactStackRowsUptoSaid : Prop := fnExactStackRowsUptoRow.holds Try.pinned (OpenSpec.upto fnExactStackRowsSpec)

/-- 'laws.FnExactProductOf', WHERE WHAT IT READS IS OF BULK AT MOST 1048576: true; the input reads as it did. -/
def fnExactProductOfUptoRow : OpenClaim := { program := "ytopgelloghblaaa", sum := "2b12df0b3c9e4cd2571636685e821722e4dd009a74a15cbba1f9336fd551e739", func := "loop.example/g01117/laws.FnExactProductOf", spec := "fnExactProductOf", unfollowed := true, recurses := true, apart := false, narrowed := true }
def FnExactProductOfUptoSaid : Prop := fnExactProductOfUptoRow.holds Try.pinned (OpenSpec.upto fnExactProductOfSpec)

/-- 'laws.FnExactSharesOf', WHERE WHAT IT READS IS OF BULK AT MOST 1048576: true; the input reads as it did. -/
def fnExactSharesOfUptoRow : OpenClaim := { program := "ytopgelloghblaaa", sum := "2b12df0b3c9e4cd2571636685e821722e4dd009a74a15cbba1f9336fd551e739", func := "loop.example/g01117/laws.FnExactSharesOf", spec := "fnExactSharesOf", unfollowed := true, recurses := true, apart := false, narrowed := true }
def FnExactSharesOfUptoSaid : Prop := fnExactSharesOfUptoRow.holds Try.pinned (OpenSpec.upto fnExactSharesOfSpec)

/-- 'laws.FnExactSizesOf', WHERE WHAT IT READS IS OF BULK AT MOST 1048576: true; the input reads as it did. -/
def fnExactSizesOfUptoRow : OpenClaim := { program := "ytopgelloghblaaa", sum := "2b12df0b3c9e4cd2571636685e821722e4dd009a74a15cbba1f9336fd551e739", func := "loop.example/g01117/laws.FnExactSizesOf", spec := "fnExactSizesOf", unfollowed := true, recurses := true, apart := false, narrowed := true }
def FnExactSizesOfUptoSaid : Prop := fnExactSizesOfUptoRow.holds Try.pinned (OpenSpec.upto fnExactSizesOfSpec)

/-- 'laws.FnExactValidScheme', WHERE WHAT IT READS IS OF BULK AT MOST 1048576: true; the input reads as it did. -/
def fnExactValidSchemeUptoRow : OpenClaim := { program := "ytopgelloghblaaa", sum := "2b12df0b3c9e4cd2571636685e821722e4dd009a74a15cbba1f9336fd551e739", func := "loop.example/g01117/laws.FnExactValidScheme", spec := "fnExactValidScheme", unfollowed := true, recurses := true, apart := false, narrowed := true }
def FnExactValidSchemeUptoSaid : Prop := fnExactValidSchemeUptoRow.holds Try.pinned (OpenSpec.upto fnExactValidSchemeSpec)

/-- 'laws.FnExactSameScheme', WHERE WHAT IT READS IS OF BULK AT MOST 1048576: true; the input reads as it did. -/
def fnExactSameSchemeUptoRow : OpenClaim := { program := "ytopgelloghblaaa", sum := "2b12df0b3c9e4cd2571636685e821722e4dd009a74a15cbba1f9336fd551e739", func := "loop.example/g01117/laws.FnExactSameScheme", spec := "fnExactSameScheme", unfollowed := true, recurses := true, apart := false, narrowed := true }
def FnExactSameSchemeUptoSaid : Prop := fnExactSameSchemeUptoRow.holds Try.pinned (OpenSpec.upto fnExactSameSchemeSpec)

/-- 'laws.FnExactRowsHeld', WHERE WHAT IT READS IS OF BULK AT MOST 1048576: true; the input reads as it did. -/
def fnExactRowsHeldUptoRow : OpenClaim := { program := "ytopgelloghblaaa", sum := "2b12df0b3c9e4cd2571636685e821722e4dd009a74a15cbba1f9336fd551e739", func := "loop.example/g01117/laws.FnExactRowsHeld", spec := "fnExactRowsHeld", unfollowed := true, recurses := true, apart := false, narrowed := true }
def FnExactRowsHeldUptoSaid : Prop := fnExactRowsHeldUptoRow.holds Try.pinned (OpenSpec.upto fnExactRowsHeldSpec)

/-- 'laws.FnLinear', WHERE WHAT IT READS IS OF BULK AT MOST 1048576: true; the input reads as it did. -/
def fnLinearUptoRow : OpenClaim := { program := "ytopgelloghblaaa", sum := "2b12df0b3c9e4cd2571636685e821722e4dd009a74a15cbba1f9336fd551e739", func := "loop.example/g01117/laws.FnLinear", spec := "fnLinear", unfollowed := true, recurses := true, apart := false, narrowed := true }
def FnLinearUptoSaid : Prop := fnLinearUptoRow.holds Try.pinned (OpenSpec.upto fnLinearSpec)

end Rows
end Go.Proofs.Ytopgelloghblaaa
