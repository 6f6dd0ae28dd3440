/- For all weights and every quota the program's WeightedFamily and the reference's answer alike, the weights stay, and the result is memory of its own. This text: words that the proof rests on. -/
import Derived.Test.YtenmlpngnpjpjaaCFnExactWeightedFamilyWLastw
import Derived.Test.YtenmlpngnpjpjaaCFnExactWeightedFamilyWWordsw
/-! ### 50. A region's order in a table, made once a region: each step asks the table (numbers alone), not the operations -/
namespace Go.Proofs.YtenmlpngnpjpjaaW.PrintLast
open Go.Proofs.YtenmlpngnpjpjaaW.PrintWords (Aside0)
section
variable {md : Region.Mode} {ops : Array Oper} {T : Bool × List (List Nat × List Nat)} {l l' li lj lk : Array Bool} {ds : List Nat} {i j k : Nat}
end
end Go.Proofs.YtenmlpngnpjpjaaW.PrintLast
