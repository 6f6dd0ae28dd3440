/-
  No cell of these rows narrows 'for every input' (looked for: loops, veiled, ifaces, maps, wideKeys, modest, calm, conditions, laid).
  DERIVED. THE GIVEN ROWS OF THIS SEAT. 6 by the template 'for every input the law returns true; each argument reads behind the call as it read before'; 0 by the template 'total and deterministic' (their statements: YtenmlpngnpjpjaaTotals.lean).
  GIVEN WITH THE SEED: the statements are not yours to turn. If you find one false, say at which input.
  Laid BY PROGRAM, IN A SANDBOX (cutbox-rows.mjs): the forced cells as the released guide's own fill.sh prints them over the translation 38ef224a6788bf1c… (all of the seat's roots in one cut). By AI agents, Wed Nov 11 2026. No macro, syntax, notation, axiom, sorry.
-/
import Derived.Test.YtenmlpngnpjpjaaChecked
import GoSem.Claim
import GoSem.ClaimJoined
import GoSem.ClaimMapViews
import Derived.JoinedTies
import Derived.KernelRfl
namespace Go.Proofs.Ytenmlpngnpjpjaa
/- THE CELL 'sum', in the pinned program and in every row, IS THE sha256 OF THE DUMP (.gsa) THAT YtenmlpngnpjpjaaProg.lean LOADS. Nothing in Lean hashes anything: it is a label: what it is worth is what the hold of that sum in a sandbox is worth. -/
noncomputable def Try.pinned : Pinned := { name := "ytenmlpngnpjpjaa", sum := "38ef224a6788bf1ce05642914c3f1f36872af0c5b82aa29b01b5d16675f28d1f", checked := Try.checked }
namespace Rows
def none {H : Type} : Left H := { results := [], args := [] }

/-- 'laws.FnExactSameFamily': WHATEVER THE INPUT: true; the input reads as it did. -/
def fnExactSameFamilySpec : ChangeSpec := { name := "fnExactSameFamily", fn := fun _ => fun
  | [d1, d2] => { results := [.lit (.bool true)], args := [d1, d2] }
  | _ => none }
def fnExactSameFamilyRow : OpenClaim := { program := "ytenmlpngnpjpjaa", sum := "38ef224a6788bf1ce05642914c3f1f36872af0c5b82aa29b01b5d16675f28d1f", func := "loop.example/g01117/laws.FnExactSameFamily", spec := "fnExactSameFamily", unfollowed := true, recurses := true, apart := false }
def FnExactSameFamilySaid : Prop := fnExactSameFamilyRow.holds Try.pinned (OpenSpec.ofChange fnExactSameFamilySpec)

/-- ITS FALSE NEIGHBOUR: 'it returns false'. Refute it at one input. -/
def fnExactSameFamilyWrong : ChangeSpec := { name := "fnExactSameFamily", fn := fun _ => fun
  | [d1, d2] => { results := [.lit (.bool false)], args := [d1, d2] }
  | _ => none }
def FnExactSameFamilyWrongFalsely : Prop := fnExactSameFamilyRow.holds Try.pinned (OpenSpec.ofChange fnExactSameFamilyWrong)

/-- 'laws.FnExactValidFamily': WHATEVER THE INPUT: true; the input reads as it did. -/
def fnExactValidFamilySpec : ChangeSpec := { name := "fnExactValidFamily", fn := fun _ => fun
  | [d] => { results := [.lit (.bool true)], args := [d] }
  | _ => none }
def fnExactValidFamilyRow : OpenClaim := { program := "ytenmlpngnpjpjaa", sum := "38ef224a6788bf1ce05642914c3f1f36872af0c5b82aa29b01b5d16675f28d1f", func := "loop.example/g01117/laws.FnExactValidFamily", spec := "fnExactValidFamily", apart := false }
def FnExactValidFamilySaid : Prop := fnExactValidFamilyRow.holds Try.pinned (OpenSpec.ofChange fnExactValidFamilySpec)

/-- ITS FALSE NEIGHBOUR: 'it returns false'. Refute it at one input. -/
def fnExactValidFamilyWrong : ChangeSpec := { name := "fnExactValidFamily", fn := fun _ => fun
  | [d] => { results := [.lit (.bool false)], args := [d] }
  | _ => none }
def FnExactValidFamilyWrongFalsely : Prop := fnExactValidFamilyRow.holds Try.pinned (OpenSpec.ofChange fnExactValidFamilyWrong)

/-- 'laws.FnExactNeededHolders': WHATEVER THE INPUT: true; the input reads as it did. -/
def fnExactNeededHoldersSpec : ChangeSpec := { name := "fnExactNeededHolders", fn := fun _ => fun
  | [d] => { results := [.lit (.bool true)], args := [d] }
  | _ => none }
def fnExactNeededHoldersRow : OpenClaim := { program := "ytenmlpngnpjpjaa", sum := "38ef224a6788bf1ce05642914c3f1f36872af0c5b82aa29b01b5d16675f28d1f", func := "loop.example/g01117/laws.FnExactNeededHolders", spec := "fnExactNeededHolders", apart := false }
def FnExactNeededHoldersSaid : Prop := fnExactNeededHoldersRow.holds Try.pinned (OpenSpec.ofChange fnExactNeededHoldersSpec)

/-- ITS FALSE NEIGHBOUR: 'it returns false'. Refute it at one input. -/
def fnExactNeededHoldersWrong : ChangeSpec := { name := "fnExactNeededHolders", fn := fun _ => fun
  | [d] => { results := [.lit (.bool false)], args := [d] }
  | _ => none }
def FnExactNeededHoldersWrongFalsely : Prop := fnExactNeededHoldersRow.holds Try.pinned (OpenSpec.ofChange fnExactNeededHoldersWrong)

/-- 'laws.FnExactVetoHolders': WHATEVER THE INPUT: true; the input reads as it did. -/
def fnExactVetoHoldersSpec : ChangeSpec := { name := "fnExactVetoHolders", fn := fun _ => fun
  | [d] => { results := [.lit (.bool true)], args := [d] }
  | _ => none }
def fnExactVetoHoldersRow : OpenClaim := { program := "ytenmlpngnpjpjaa", sum := "38ef224a6788bf1ce05642914c3f1f36872af0c5b82aa29b01b5d16675f28d1f", func := "loop.example/g01117/laws.FnExactVetoHolders", spec := "fnExactVetoHolders", apart := false }
def FnExactVetoHoldersSaid : Prop := fnExactVetoHoldersRow.holds Try.pinned (OpenSpec.ofChange fnExactVetoHoldersSpec)

/-- ITS FALSE NEIGHBOUR: 'it returns false'. Refute it at one input. -/
def fnExactVetoHoldersWrong : ChangeSpec := { name := "fnExactVetoHolders", fn := fun _ => fun
  | [d] => { results := [.lit (.bool false)], args := [d] }
  | _ => none }
def FnExactVetoHoldersWrongFalsely : Prop := fnExactVetoHoldersRow.holds Try.pinned (OpenSpec.ofChange fnExactVetoHoldersWrong)

/-- 'laws.FnExactWeightedFamily': WHATEVER THE INPUT: true; the input reads as it did. -/
def fnExactWeightedFamilySpec : ChangeSpec := { name := "fnExactWeightedFamily", fn := fun _ => fun
  | [d1, d2] => { results := [.lit (.bool true)], args := [d1, d2] }
  | _ => none }
def fnExactWeightedFamilyRow : OpenClaim := { program := "ytenmlpngnpjpjaa", sum := "38ef224a6788bf1ce05642914c3f1f36872af0c5b82aa29b01b5d16675f28d1f", func := "loop.example/g01117/laws.FnExactWeightedFamily", spec := "fnExactWeightedFamily", unfollowed := true, recurses := true, apart := false }
def FnExactWeightedFamilySaid : Prop := fnExactWeightedFamilyRow.holds Try.pinned (OpenSpec.ofChange fnExactWeightedFamilySpec)

/-- ITS FALSE NEIGHBOUR: 'it returns false'. Refute it at one input. -/
def fnExactWeightedFamilyWrong : ChangeSpec := { name := "fnExactWeightedFamily", fn := fun _ => fun
  | [d1, d2] => { results := [.lit (.bool false)], args := [d1, d2] }
  | _ => none }
def FnExactWeightedFamilyWrongFalsely : Prop := fnExactWeightedFamilyRow.holds Try.pinned (OpenSpec.ofChange fnExactWeightedFamilyWrong)

/-- 'laws.FnExactThresholdFamily': WHATEVER THE INPUT: true; the input reads as it did. -/
def fnExactThresholdFamilySpec : ChangeSpec := { name := "fnExactThresholdFamily", fn := fun _ => fun
  | [d1, d2] => { results := [.lit (.bool true)], args := [d1, d2] }
  | _ => none }
def fnExactThresholdFamilyRow : OpenClaim := { program := "ytenmlpngnpjpjaa", sum := "38ef224a6788bf1ce05642914c3f1f36872af0c5b82aa29b01b5d16675f28d1f", func := "loop.example/g01117/laws.FnExactThresholdFamily", spec := "fnExactThresholdFamily", unfollowed := true, recurses := true, apart := false }
def FnExactThresholdFamilySaid : Prop := fnExactThresholdFamilyRow.holds Try.pinned (OpenSpec.ofChange fnExactThresholdFamilySpec)

/-- ITS FALSE NEIGHBOUR: 'it returns false'. Refute it at one input. -/
def fnExactThresholdFamilyWrong : ChangeSpec := { name := "fnExactThresholdFamily", fn := fun _ => fun
  | [d1, d2] => { results := [.lit (.bool false)], args := [d1, d2] }
  | _ => none }
def FnExactThresholdFamilyWrongFalsely : Prop := fnExactThresholdFamilyRow.holds Try.pinned (OpenSpec.ofChange fnExactThresholdFamilyWrong)

/- THE SECOND FORM. 'bulk': how many values and letters a reading holds, each counted each time it is reached (what is shared counts as often as it is met; a slice's spare places count too). A statement '..UptoSaid' is the law's where the arguments, and the package variables that the reading takes, are together of bulk at most 1048576: NARROWER than '..Said'. Prove '..Said' where nothing that the law and all that it calls make is longer than what came in: it says more and counts as full. Else prove '..UptoSaid'. A law counts once. -/
mutual
def uptoBulk {H : Type} : DataW H → Nat
  | .lit (.string bytes) => bytes.length + 1
  | .lit _ => 1
  | .nil => 1
  | .ptr d => uptoBulk d + 1
  | .slice elems spare => uptoBulkAll elems + uptoBulkAll spare + 1
  | .agg parts => uptoBulkAll parts + 1
  | .iface _ d => uptoBulk d + 1
  | .map entries => uptoBulkEntries entries + 1
  | .held _ => 1
def uptoBulkAll {H : Type} : List (DataW H) → Nat
  | [] => 0
  | d :: r => uptoBulk d + uptoBulkAll r
def uptoBulkEntries {H : Type} : List (Lit × DataW H) → Nat
  | [] => 0
  | x :: r => uptoBulkEntry x + uptoBulkEntries r
def uptoBulkEntry {H : Type} : Lit × DataW H → Nat
  | (.string bytes, d) => bytes.length + uptoBulk d + 1
  | (_, d) => uptoBulk d + 1
 end
def uptoSmall : (H : Type) → List (DataW H) → Bool := fun _ ds => decide (uptoBulkAll ds ≤ 1048576)
def OpenSpec.upto (s : _root_.Go.ChangeSpec) : _root_.Go.OpenSpec := { _root_.Go.OpenSpec.ofChange s with cond := some uptoSmall }

/-- 'laws.FnExactSameFamily', WHERE WHAT IT READS IS OF BULK AT MOST 1048576: true; the input reads as it did. -/
def fnExactSameFamilyUptoRow : OpenClaim := { program := "ytenmlpngnpjpjaa", sum := "38ef224a6788bf1ce05642914c3f1f36872af0c5b82aa29b01b5d16675f28d1f", func := "loop.example/g01117/laws.FnExactSameFamily", spec := "fnExactSameFamily", unfollowed := true, recurses := true, apart := false, narrowed := true }
def FnExactSameFamilyUptoSaid : Prop := fnExactSameFamilyUptoRow.holds Try.pinned (OpenSpec.upto fnExactSameFamilySpec)

/-- 'laws.FnExactValidFamily', WHERE WHAT IT READS IS OF BULK AT MOST 1048576: true; the input reads as it did. -/
def fnExactValidFamilyUptoRow : OpenClaim := { program := "ytenmlpngnpjpjaa", sum := "38ef224a6788bf1ce05642914c3f1f36872af0c5b82aa29b01b5d16675f28d1f", func := "loop.example/g01117/laws.FnExactValidFamily", spec := "fnExactValidFamily", apart := false, narrowed := true }
def FnExactValidFamilyUptoSaid : Prop := fnExactValidFamilyUptoRow.holds Try.pinned (OpenSpec.upto fnExactValidFamilySpec)

/-- 'laws.FnExactNeededHolders', WHERE WHAT IT READS IS OF BULK AT MOST 1048576: true; the input reads as it did. -/
def fnExactNeededHoldersUptoRow : OpenClaim := { program := "ytenmlpngnpjpjaa", sum := "38ef224a6788bf1ce05642914c3f1f36872af0c5b82aa29b01b5d16675f28d1f", func := "loop.example/g01117/laws.FnExactNeededHolders", spec := "fnExactNeededHolders", apart := false, narrowed := true }
def FnExactNeededHoldersUptoSaid : Prop := fnExactNeededHoldersUptoRow.holds Try.pinned (OpenSpec.upto fnExactNeededHoldersSpec)

/-- 'laws.FnExactVetoHolders', WHERE WHAT IT READS IS OF BULK AT MOST 1048576: true; the input reads as it did. -/
def fnExactVetoHoldersUptoRow : OpenClaim := { program := "ytenmlpngnpjpjaa", sum := "38ef224a6788bf1ce05642914c3f1f36872af0c5b82aa29b01b5d16675f28d1f", func := "loop.example/g01117/laws.FnExactVetoHolders", spec := "fnExactVetoHolders", apart := false, narrowed := true }
def FnExactVetoHoldersUptoSaid : Prop := fnExactVetoHoldersUptoRow.holds Try.pinned (OpenSpec.upto fnExactVetoHoldersSpec)

/-- 'laws.FnExactWeightedFamily', WHERE WHAT IT READS IS OF BULK AT MOST 1048576: true; the input reads as it did. -/
def fnExactWeightedFamilyUptoRow : OpenClaim := { program := "ytenmlpngnpjpjaa", sum := "38ef224a6788bf1ce05642914c3f1f36872af0c5b82aa29b01b5d16675f28d1f", func := "loop.example/g01117/laws.FnExactWeightedFamily", spec := "fnExactWeightedFamily", unfollowed := true, recurses := true, apart := false, narrowed := true }
def FnExactWeightedFamilyUptoSaid : Prop := fnExactWeightedFamilyUptoRow.holds Try.pinned (OpenSpec.upto fnExactWeightedFamilySpec)

/-- 'laws.FnExactThresholdFamily', WHERE WHAT IT READS IS OF BULK AT MOST 1048576: true; the input reads as it did. -/
def fnExactThresholdFamilyUptoRow : OpenClaim := { program := "ytenmlpngnpjpjaa", sum := "38ef224a6788bf1ce05642914c3f1f36872af0c5b82aa29b01b5d16675f28d1f", func := "loop.example/g01117/laws.FnExactThresholdFamily", spec := "fnExactThresholdFamily", unfollowed := true, recurses := true, apart := false, narrowed := true }
def FnExactThresholdFamilyUptoSaid : Prop := fnExactThresholdFamilyUptoRow.holds Try.pinned (OpenSpec.upto fnExactThresholdFamilySpec)

end Rows
end Go.Proofs.Ytenmlpngnpjpjaa
