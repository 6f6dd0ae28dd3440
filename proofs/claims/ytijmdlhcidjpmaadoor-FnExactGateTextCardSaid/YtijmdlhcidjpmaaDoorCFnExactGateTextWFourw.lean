/- For all arguments the program's GateText and the reference's answer alike, and the argument stays. This text: words that the proof rests on. -/
import Derived.Test.YtijmdlhcidjpmaaDoorCFnExactGateTextWTabw
/-! ### 56. Four, five, six operations that may come up next, in any order -/
namespace Go.Proofs.YtijmdlhcidjpmaaDoorW.PrintLast
section
variable {P : Program} {ops : Array Oper} {Q : Exit → Act → World → Prop} {md : Region.Mode} {S : World → Prop} {ds : List Nat} {T : Bool × List (List Nat × List Nat)}
end
end Go.Proofs.YtijmdlhcidjpmaaDoorW.PrintLast
