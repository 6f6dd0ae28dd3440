/- For every text the program's ReadGate and the reference's read alike, and the result is memory of its own. This text: words that the proof rests on. -/
import Derived.Test.YtijmdlhcidjpmaaDoorCFnExactReadGateWInvw
import Derived.Test.YtijmdlhcidjpmaaDoorCFnExactReadGateWFootNew
namespace Go.Proofs.YtijmdlhcidjpmaaDoorW.PrintWords
open Go.RowKit
end Go.Proofs.YtijmdlhcidjpmaaDoorW.PrintWords
namespace Go.Proofs.YtijmdlhcidjpmaaDoorW.PrintLast
section
variable {ops : Array Oper} {a : Act} {o og : Oper} {g : Nat} {t : Tmp} {u : Bool}
end
end Go.Proofs.YtijmdlhcidjpmaaDoorW.PrintLast
