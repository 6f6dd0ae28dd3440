/- For all weights and every quota the program's WeightedFamily and the reference's answer alike, the weights stay, and the result is memory of its own. This text: words that the proof rests on. -/
import Derived.Test.YtenmlpngnpjpjaaCFnExactWeightedFamilyWWordsw
import Derived.Laws.StructEq
/-! ### 53. '==' of structs as_ one Bool -/
namespace Go.Proofs.YtenmlpngnpjpjaaW.PrintWords
open Go.RowKit
section
variable {P : Program} {d : Nat} {xs ys : Array Value} {f : Field} {fs : List Field} {a b : Value} {r s : Bool} {w : World}
end
end Go.Proofs.YtenmlpngnpjpjaaW.PrintWords
