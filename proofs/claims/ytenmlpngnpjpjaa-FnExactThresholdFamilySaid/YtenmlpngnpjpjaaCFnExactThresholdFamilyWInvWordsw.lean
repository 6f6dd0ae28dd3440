/- For every number of holders and every least the program's ThresholdFamily and the reference's answer alike, and the result is memory of its own. This text: words that the proof rests on. -/
import Derived.Test.YtenmlpngnpjpjaaCFnExactThresholdFamilyWInvw
import Derived.Test.YtenmlpngnpjpjaaCFnExactThresholdFamilyWFootNew
namespace Go.Proofs.YtenmlpngnpjpjaaW.PrintWords
open Go.RowKit
end Go.Proofs.YtenmlpngnpjpjaaW.PrintWords
namespace Go.Proofs.YtenmlpngnpjpjaaW.PrintLast
section
variable {ops : Array Oper} {a : Act} {o og : Oper} {g : Nat} {t : Tmp} {u : Bool}
end
end Go.Proofs.YtenmlpngnpjpjaaW.PrintLast
