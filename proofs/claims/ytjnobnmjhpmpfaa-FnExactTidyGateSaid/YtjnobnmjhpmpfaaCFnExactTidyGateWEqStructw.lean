/- For all arguments the program's TidyGate and the reference's answer alike, the argument stays, and the result is memory of its own. This text: words that the proof rests on. -/
import Derived.Test.YtjnobnmjhpmpfaaCFnExactTidyGateWWordsw
import Derived.Laws.StructEq
/-! ### 53. '==' of structs as_ one Bool -/
namespace Go.Proofs.YtjnobnmjhpmpfaaW.PrintWords
open Go.RowKit
section
variable {P : Program} {d : Nat} {xs ys : Array Value} {f : Field} {fs : List Field} {a b : Value} {r s : Bool} {w : World}
end
end Go.Proofs.YtjnobnmjhpmpfaaW.PrintWords
