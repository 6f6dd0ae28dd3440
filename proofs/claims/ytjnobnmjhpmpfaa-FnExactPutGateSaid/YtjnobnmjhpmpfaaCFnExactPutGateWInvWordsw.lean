/- For all arguments the program's PutGate and the reference's answer alike, the arguments stay, and the result is memory of its own. This text: words that the proof rests on. -/
import Derived.Test.YtjnobnmjhpmpfaaCFnExactPutGateWInvw
import Derived.Test.YtjnobnmjhpmpfaaCFnExactPutGateWFootNew
namespace Go.Proofs.YtjnobnmjhpmpfaaW.PrintWords
open Go.RowKit
end Go.Proofs.YtjnobnmjhpmpfaaW.PrintWords
namespace Go.Proofs.YtjnobnmjhpmpfaaW.PrintLast
section
variable {ops : Array Oper} {a : Act} {o og : Oper} {g : Nat} {t : Tmp} {u : Bool}
end
end Go.Proofs.YtjnobnmjhpmpfaaW.PrintLast
