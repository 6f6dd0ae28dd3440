/-
  NARROWER THAN 'FOR EVERY INPUT', by the rows' own cells (each row's printed sentence says how): FnExactGateSize: loops · FnExactSameGate: loops · FnExactValidGate: loops · FnExactDualGate: loops · FnExactLeavesOf: loops · FnExactTidyGate: loops · FnExactPutGate: loops.
  DERIVED. THE GIVEN ROWS OF THIS SEAT. 9 by the template 'for every input the law returns true; each argument reads behind the call as it read before'; 0 by the template 'total and deterministic' (their statements: YtjnobnmjhpmpfaaTotals.lean).
  GIVEN WITH THE SEED: the statements are not yours to turn. If you find one false, say at which input.
  Laid BY PROGRAM, IN A SANDBOX (cutbox-rows.mjs): the forced cells as the released guide's own fill.sh prints them over the translation 5c0eb2ba259bd05e… (all of the seat's roots in one cut). By AI agents, Wed Nov 11 2026. No macro, syntax, notation, axiom, sorry.
-/
import Derived.Test.YtjnobnmjhpmpfaaChecked
import GoSem.Claim
import GoSem.ClaimJoined
import GoSem.ClaimMapViews
import Derived.JoinedTies
import Derived.KernelRfl
namespace Go.Proofs.Ytjnobnmjhpmpfaa
/- THE CELL 'sum', in the pinned program and in every row, IS THE sha256 OF THE DUMP (.gsa) THAT YtjnobnmjhpmpfaaProg.lean LOADS. Nothing in Lean hashes anything: it is a label: what it is worth is what the hold of that sum in a sandbox is worth. -/
noncomputable def Try.pinned : Pinned := { name := "ytjnobnmjhpmpfaa", sum := "5c0eb2ba259bd05edf9c29b844e3d39b05461fda96faeddd14f5bdea17a63980", checked := Try.checked }
namespace Rows
def none {H : Type} : Left H := { results := [], args := [] }

/-- 'laws.FnExactGateSize': WHATEVER THE INPUT: true; the input reads as it did. -/
def fnExactGateSizeSpec : ChangeSpec := { name := "fnExactGateSize", fn := fun _ => fun
  | [d] => { results := [.lit (.bool true)], args := [d] }
  | _ => none }
def fnExactGateSizeRow : OpenClaim := { program := "ytjnobnmjhpmpfaa", sum := "5c0eb2ba259bd05edf9c29b844e3d39b05461fda96faeddd14f5bdea17a63980", func := "loop.example/g01117/laws.FnExactGateSize", spec := "fnExactGateSize", recurses := true, loops := true, apart := false }
def FnExactGateSizeSaid : Prop := fnExactGateSizeRow.holds Try.pinned (OpenSpec.ofChange fnExactGateSizeSpec)

/-- ITS FALSE NEIGHBOUR: 'it returns false'. Refute it at one input. -/
def fnExactGateSizeWrong : ChangeSpec := { name := "fnExactGateSize", fn := fun _ => fun
  | [d] => { results := [.lit (.bool false)], args := [d] }
  | _ => none }
def FnExactGateSizeWrongFalsely : Prop := fnExactGateSizeRow.holds Try.pinned (OpenSpec.ofChange fnExactGateSizeWrong)

/-- 'laws.FnExactSameGate': WHATEVER THE INPUT: true; the input reads as it did. -/
def fnExactSameGateSpec : ChangeSpec := { name := "fnExactSameGate", fn := fun _ => fun
  | [d1, d2] => { results := [.lit (.bool true)], args := [d1, d2] }
  | _ => none }
def fnExactSameGateRow : OpenClaim := { program := "ytjnobnmjhpmpfaa", sum := "5c0eb2ba259bd05edf9c29b844e3d39b05461fda96faeddd14f5bdea17a63980", func := "loop.example/g01117/laws.FnExactSameGate", spec := "fnExactSameGate", unfollowed := true, recurses := true, loops := true, apart := false }
def FnExactSameGateSaid : Prop := fnExactSameGateRow.holds Try.pinned (OpenSpec.ofChange fnExactSameGateSpec)

/-- ITS FALSE NEIGHBOUR: 'it returns false'. Refute it at one input. -/
def fnExactSameGateWrong : ChangeSpec := { name := "fnExactSameGate", fn := fun _ => fun
  | [d1, d2] => { results := [.lit (.bool false)], args := [d1, d2] }
  | _ => none }
def FnExactSameGateWrongFalsely : Prop := fnExactSameGateRow.holds Try.pinned (OpenSpec.ofChange fnExactSameGateWrong)

/-- 'laws.FnExactValidGate': WHATEVER THE INPUT: true; the input reads as it did. -/
def fnExactValidGateSpec : ChangeSpec := { name := "fnExactValidGate", fn := fun _ => fun
  | [d1, d2] => { results := [.lit (.bool true)], args := [d1, d2] }
  | _ => none }
def fnExactValidGateRow : OpenClaim := { program := "ytjnobnmjhpmpfaa", sum := "5c0eb2ba259bd05edf9c29b844e3d39b05461fda96faeddd14f5bdea17a63980", func := "loop.example/g01117/laws.FnExactValidGate", spec := "fnExactValidGate", unfollowed := true, recurses := true, loops := true, apart := false }
def FnExactValidGateSaid : Prop := fnExactValidGateRow.holds Try.pinned (OpenSpec.ofChange fnExactValidGateSpec)

/-- ITS FALSE NEIGHBOUR: 'it returns false'. Refute it at one input. -/
def fnExactValidGateWrong : ChangeSpec := { name := "fnExactValidGate", fn := fun _ => fun
  | [d1, d2] => { results := [.lit (.bool false)], args := [d1, d2] }
  | _ => none }
def FnExactValidGateWrongFalsely : Prop := fnExactValidGateRow.holds Try.pinned (OpenSpec.ofChange fnExactValidGateWrong)

/-- 'laws.FnExactDualGate': WHATEVER THE INPUT: true; the input reads as it did. -/
def fnExactDualGateSpec : ChangeSpec := { name := "fnExactDualGate", fn := fun _ => fun
  | [d1, d2] => { results := [.lit (.bool true)], args := [d1, d2] }
  | _ => none }
def fnExactDualGateRow : OpenClaim := { program := "ytjnobnmjhpmpfaa", sum := "5c0eb2ba259bd05edf9c29b844e3d39b05461fda96faeddd14f5bdea17a63980", func := "loop.example/g01117/laws.FnExactDualGate", spec := "fnExactDualGate", unfollowed := true, recurses := true, loops := true, apart := false }
def FnExactDualGateSaid : Prop := fnExactDualGateRow.holds Try.pinned (OpenSpec.ofChange fnExactDualGateSpec)

/-- ITS FALSE NEIGHBOUR: 'it returns false'. Refute it at one input. -/
def fnExactDualGateWrong : ChangeSpec := { name := "fnExactDualGate", fn := fun _ => fun
  | [d1, d2] => { results := [.lit (.bool false)], args := [d1, d2] }
  | _ => none }
def FnExactDualGateWrongFalsely : Prop := fnExactDualGateRow.holds Try.pinned (OpenSpec.ofChange fnExactDualGateWrong)

/-- 'laws.FnExactLeavesOf': WHATEVER THE INPUT: true; the input reads as it did. -/
def fnExactLeavesOfSpec : ChangeSpec := { name := "fnExactLeavesOf", fn := fun _ => fun
  | [d1, d2] => { results := [.lit (.bool true)], args := [d1, d2] }
  | _ => none }
def fnExactLeavesOfRow : OpenClaim := { program := "ytjnobnmjhpmpfaa", sum := "5c0eb2ba259bd05edf9c29b844e3d39b05461fda96faeddd14f5bdea17a63980", func := "loop.example/g01117/laws.FnExactLeavesOf", spec := "fnExactLeavesOf", unfollowed := true, recurses := true, loops := true, apart := false }
def FnExactLeavesOfSaid : Prop := fnExactLeavesOfRow.holds Try.pinned (OpenSpec.ofChange fnExactLeavesOfSpec)

/-- ITS FALSE NEIGHBOUR: 'it returns false'. Refute it at one input. -/
def fnExactLeavesOfWrong : ChangeSpec := { name := "fnExactLeavesOf", fn := fun _ => fun
  | [d1, d2] => { results := [.lit (.bool false)], args := [d1, d2] }
  | _ => none }
def FnExactLeavesOfWrongFalsely : Prop := fnExactLeavesOfRow.holds Try.pinned (OpenSpec.ofChange fnExactLeavesOfWrong)

/-- 'laws.FnExactLevelGate': WHATEVER THE INPUT: true; the input reads as it did. -/
def fnExactLevelGateSpec : ChangeSpec := { name := "fnExactLevelGate", fn := fun _ => fun
  | [d1, d2] => { results := [.lit (.bool true)], args := [d1, d2] }
  | _ => none }
def fnExactLevelGateRow : OpenClaim := { program := "ytjnobnmjhpmpfaa", sum := "5c0eb2ba259bd05edf9c29b844e3d39b05461fda96faeddd14f5bdea17a63980", func := "loop.example/g01117/laws.FnExactLevelGate", spec := "fnExactLevelGate", unfollowed := true, recurses := true, apart := false }
def FnExactLevelGateSaid : Prop := fnExactLevelGateRow.holds Try.pinned (OpenSpec.ofChange fnExactLevelGateSpec)

/-- ITS FALSE NEIGHBOUR: 'it returns false'. Refute it at one input. -/
def fnExactLevelGateWrong : ChangeSpec := { name := "fnExactLevelGate", fn := fun _ => fun
  | [d1, d2] => { results := [.lit (.bool false)], args := [d1, d2] }
  | _ => none }
def FnExactLevelGateWrongFalsely : Prop := fnExactLevelGateRow.holds Try.pinned (OpenSpec.ofChange fnExactLevelGateWrong)

/-- 'laws.FnExactTidyGate': WHATEVER THE INPUT: true; the input reads as it did. -/
def fnExactTidyGateSpec : ChangeSpec := { name := "fnExactTidyGate", fn := fun _ => fun
  | [d1, d2] => { results := [.lit (.bool true)], args := [d1, d2] }
  | _ => none }
def fnExactTidyGateRow : OpenClaim := { program := "ytjnobnmjhpmpfaa", sum := "5c0eb2ba259bd05edf9c29b844e3d39b05461fda96faeddd14f5bdea17a63980", func := "loop.example/g01117/laws.FnExactTidyGate", spec := "fnExactTidyGate", unfollowed := true, recurses := true, loops := true, apart := false }
def FnExactTidyGateSaid : Prop := fnExactTidyGateRow.holds Try.pinned (OpenSpec.ofChange fnExactTidyGateSpec)

/-- ITS FALSE NEIGHBOUR: 'it returns false'. Refute it at one input. -/
def fnExactTidyGateWrong : ChangeSpec := { name := "fnExactTidyGate", fn := fun _ => fun
  | [d1, d2] => { results := [.lit (.bool false)], args := [d1, d2] }
  | _ => none }
def FnExactTidyGateWrongFalsely : Prop := fnExactTidyGateRow.holds Try.pinned (OpenSpec.ofChange fnExactTidyGateWrong)

/-- 'laws.FnExactPutGate': WHATEVER THE INPUT: true; the input reads as it did. -/
def fnExactPutGateSpec : ChangeSpec := { name := "fnExactPutGate", fn := fun _ => fun
  | [d1, d2, d3, d4] => { results := [.lit (.bool true)], args := [d1, d2, d3, d4] }
  | _ => none }
def fnExactPutGateRow : OpenClaim := { program := "ytjnobnmjhpmpfaa", sum := "5c0eb2ba259bd05edf9c29b844e3d39b05461fda96faeddd14f5bdea17a63980", func := "loop.example/g01117/laws.FnExactPutGate", spec := "fnExactPutGate", unfollowed := true, recurses := true, loops := true, apart := false }
def FnExactPutGateSaid : Prop := fnExactPutGateRow.holds Try.pinned (OpenSpec.ofChange fnExactPutGateSpec)

/-- ITS FALSE NEIGHBOUR: 'it returns false'. Refute it at one input. -/
def fnExactPutGateWrong : ChangeSpec := { name := "fnExactPutGate", fn := fun _ => fun
  | [d1, d2, d3, d4] => { results := [.lit (.bool false)], args := [d1, d2, d3, d4] }
  | _ => none }
def FnExactPutGateWrongFalsely : Prop := fnExactPutGateRow.holds Try.pinned (OpenSpec.ofChange fnExactPutGateWrong)

/-- 'laws.FnExactGateOfFamily': WHATEVER THE INPUT: true; the input reads as it did. -/
def fnExactGateOfFamilySpec : ChangeSpec := { name := "fnExactGateOfFamily", fn := fun _ => fun
  | [d] => { results := [.lit (.bool true)], args := [d] }
  | _ => none }
def fnExactGateOfFamilyRow : OpenClaim := { program := "ytjnobnmjhpmpfaa", sum := "5c0eb2ba259bd05edf9c29b844e3d39b05461fda96faeddd14f5bdea17a63980", func := "loop.example/g01117/laws.FnExactGateOfFamily", spec := "fnExactGateOfFamily", unfollowed := true, recurses := true, apart := false }
def FnExactGateOfFamilySaid : Prop := fnExactGateOfFamilyRow.holds Try.pinned (OpenSpec.ofChange fnExactGateOfFamilySpec)

/-- ITS FALSE NEIGHBOUR: 'it returns false'. Refute it at one input. -/
def fnExactGateOfFamilyWrong : ChangeSpec := { name := "fnExactGateOfFamily", fn := fun _ => fun
  | [d] => { results := [.lit (.bool false)], args := [d] }
  | _ => none }
def FnExactGateOfFamilyWrongFalsely : Prop := fnExactGateOfFamilyRow.holds Try.pinned (OpenSpec.ofChange fnExactGateOfFamilyWrong)

/- THE SECOND FORM. 'bulk': how many values and letters a reading holds, each counted each time it is reached (what is shared counts as often as it is met; a slice's spare places count too). A statement '..UptoSaid' is the law's where the arguments, and the package variables that the reading takes, are together of bulk at most 1048576: NARROWER than '..Said'. Prove '..Said' where nothing that the law and all that it calls make is longer than what came in: it says more and counts as full. Else prove '..UptoSaid'. A law counts once. -/
mutual
def uptoBulk {H : Type} : DataW H → Nat
  | .lit (.string bytes) => bytes.length + 1
  | .lit _ => 1
  | .nil => 1
  | .ptr d => uptoBulk d + 1
  | .slice elems spare => uptoBulkAll elems + uptoBulkAll spare + 1
  | .agg parts => uptoBulkAll parts + 1
  | .iface _ d => uptoBulk d + 1
  | .map entries => uptoBulkEntries entries + 1
  | .held _ => 1
def uptoBulkAll {H : Type} : List (DataW H) → Nat
  | [] => 0
  | d :: r => uptoBulk d + uptoBulkAll r
def uptoBulkEntries {H : Type} : List (Lit × DataW H) → Nat
  | [] => 0
  | x :: r => uptoBulkEntry x + uptoBulkEntries r
def uptoBulkEntry {H : Type} : Lit × DataW H → Nat
  | (.string bytes, d) => bytes.length + uptoBulk d + 1
  | (_, d) => uptoBulk d + 1
 end
def uptoSmall : (H : Type) → List (DataW H) → Bool := fun _ ds => decide (uptoBulkAll ds ≤ 1048576)
def OpenSpec.upto (s : _root_.Go.ChangeSpec) : _root_.Go.OpenSpec := { _root_.Go.OpenSpec.ofChange s with cond := some uptoSmall }

/-- 'laws.FnExactGateSize', WHERE WHAT IT READS IS OF BULK AT MOST 1048576: true; the input reads as it did. -/
def fnExactGateSizeUptoRow : OpenClaim := { program := "ytjnobnmjhpmpfaa", sum := "5c0eb2ba259bd05edf9c29b844e3d39b05461fda96faeddd14f5bdea17a63980", func := "loop.example/g01117/laws.FnExactGateSize", spec := "fnExactGateSize", recurses := true, loops := true, apart := false, narrowed := true }
def FnExactGateSizeUptoSaid : Prop := fnExactGateSizeUptoRow.holds Try.pinned (OpenSpec.upto fnExactGateSizeSpec)

/-- 'laws.FnExactSameGate', WHERE WHAT IT READS IS OF BULK AT MOST 1048576: true; the input reads as it did. -/
def fnExactSameGateUptoRow : OpenClaim := { program := "ytjnobnmjhpmpfaa", sum := "5c0eb2ba259bd05edf9c29b844e3d39b05461fda96faeddd14f5bdea17a63980", func := "loop.example/g01117/laws.FnExactSameGate", spec := "fnExactSameGate", unfollowed := true, recurses := true, loops := true, apart := false, narrowed := true }
def FnExactSameGateUptoSaid : Prop := fnExactSameGateUptoRow.holds Try.pinned (OpenSpec.upto fnExactSameGateSpec)

/-- 'laws.FnExactValidGate', WHERE WHAT IT READS IS OF BULK AT MOST 1048576: true; the input reads as it did. -/
def fnExactValidGateUptoRow : OpenClaim := { program := "ytjnobnmjhpmpfaa", sum := "5c0eb2ba259bd05edf9c29b844e3d39b05461fda96faeddd14f5bdea17a63980", func := "loop.example/g01117/laws.FnExactValidGate", spec := "fnExactValidGate", unfollowed := true, recurses := true, loops := true, apart := false, narrowed := true }
def FnExactValidGateUptoSaid : Prop := fnExactValidGateUptoRow.holds Try.pinned (OpenSpec.upto fnExactValidGateSpec)

/-- 'laws.FnExactDualGate', WHERE WHAT IT READS IS OF BULK AT MOST 1048576: true; the input reads as it did. -/
def fnExactDualGateUptoRow : OpenClaim := { program := "ytjnobnmjhpmpfaa", sum := "5c0eb2ba259bd05edf9c29b844e3d39b05461fda96faeddd14f5bdea17a63980", func := "loop.example/g01117/laws.FnExactDualGate", spec := "fnExactDualGate", unfollowed := true, recurses := true, loops := true, apart := false, narrowed := true }
def FnExactDualGateUptoSaid : Prop := fnExactDualGateUptoRow.holds Try.pinned (OpenSpec.upto fnExactDualGateSpec)

/-- 'laws.FnExactLeavesOf', WHERE WHAT IT READS IS OF BULK AT MOST 1048576: true; the input reads as it did. -/
def fnExactLeavesOfUptoRow : OpenClaim := { program := "ytjnobnmjhpmpfaa", sum := "5c0eb2ba259bd05edf9c29b844e3d39b05461fda96faeddd14f5bdea17a63980", func := "loop.example/g01117/laws.FnExactLeavesOf", spec := "fnExactLeavesOf", unfollowed := true, recurses := true, loops := true, apart := false, narrowed := true }
def FnExactLeavesOfUptoSaid : Prop := fnExactLeavesOfUptoRow.holds Try.pinned (OpenSpec.upto fnExactLeavesOfSpec)

/-- 'laws.FnExactLevelGate', WHERE WHAT IT READS IS OF BULK AT MOST 1048576: true; the input reads as it did. -/
def fnExactLevelGateUptoRow : OpenClaim := { program := "ytjnobnmjhpmpfaa", sum := "5c0eb2ba259bd05edf9c29b844e3d39b05461fda96faeddd14f5bdea17a63980", func := "loop.example/g01117/laws.FnExactLevelGate", spec := "fnExactLevelGate", unfollowed := true, recurses := true, apart := false, narrowed := true }
def FnExactLevelGateUptoSaid : Prop := fnExactLevelGateUptoRow.holds Try.pinned (OpenSpec.upto fnExactLevelGateSpec)

/-- 'laws.FnExactTidyGate', WHERE WHAT IT READS IS OF BULK AT MOST 1048576: true; the input reads as it did. -/
def fnExactTidyGateUptoRow : OpenClaim := { program := "ytjnobnmjhpmpfaa", sum := "5c0eb2ba259bd05edf9c29b844e3d39b05461fda96faeddd14f5bdea17a63980", func := "loop.example/g01117/laws.FnExactTidyGate", spec := "fnExactTidyGate", unfollowed := true, recurses := true, loops := true, apart := false, narrowed := true }
def FnExactTidyGateUptoSaid : Prop := fnExactTidyGateUptoRow.holds Try.pinned (OpenSpec.upto fnExactTidyGateSpec)

/-- 'laws.FnExactPutGate', WHERE WHAT IT READS IS OF BULK AT MOST 1048576: true; the input reads as it did. -/
def fnExactPutGateUptoRow : OpenClaim := { program := "ytjnobnmjhpmpfaa", sum := "5c0eb2ba259bd05edf9c29b844e3d39b05461fda96faeddd14f5bdea17a63980", func := "loop.example/g01117/laws.FnExactPutGate", spec := "fnExactPutGate", unfollowed := true, recurses := true, loops := true, apart := false, narrowed := true }
def FnExactPutGateUptoSaid : Prop := fnExactPutGateUptoRow.holds Try.pinned (OpenSpec.upto fnExactPutGateSpec)

/-- 'laws.FnExactGateOfFamily', WHERE WHAT IT READS IS OF BULK AT MOST 1048576: true; the input reads as it did. -/
def fnExactGateOfFamilyUptoRow : OpenClaim := { program := "ytjnobnmjhpmpfaa", sum := "5c0eb2ba259bd05edf9c29b844e3d39b05461fda96faeddd14f5bdea17a63980", func := "loop.example/g01117/laws.FnExactGateOfFamily", spec := "fnExactGateOfFamily", unfollowed := true, recurses := true, apart := false, narrowed := true }
def FnExactGateOfFamilyUptoSaid : Prop := fnExactGateOfFamilyUptoRow.holds Try.pinned (OpenSpec.upto fnExactGateOfFamilySpec)

end Rows
end Go.Proofs.Ytjnobnmjhpmpfaa
