/- For every text the program's ReadGate and the reference's read alike, and the result is memory of its own. This text: words that the proof rests on. -/
import Derived.Test.YtijmdlhcidjpmaaDoorCFnExactReadGateWTabw
namespace Go.Proofs.YtijmdlhcidjpmaaDoorW.PrintLast
def up (b : Nat → Bool) (i : Nat) : Nat → Bool := fun j => if j = i then true else b j
section
variable {P : Program} {ops : Array Oper} {Q : Exit → Act → World → Prop} {md : Region.Mode} {T : Bool × List (List Nat × List Nat)} {B : List Nat} {O : List Nat} {b : Nat → Bool} {i j n : Nat}
end
end Go.Proofs.YtijmdlhcidjpmaaDoorW.PrintLast
