/- For all arguments the program's TidyGate and the reference's answer alike, the argument stays, and the result is memory of its own. This text: words that the proof rests on. -/
import Derived.Test.YtjnobnmjhpmpfaaCFnExactTidyGateWInvw
import Derived.Test.YtjnobnmjhpmpfaaCFnExactTidyGateWFootNew
namespace Go.Proofs.YtjnobnmjhpmpfaaW.PrintWords
open Go.RowKit
end Go.Proofs.YtjnobnmjhpmpfaaW.PrintWords
namespace Go.Proofs.YtjnobnmjhpmpfaaW.PrintLast
section
variable {ops : Array Oper} {a : Act} {o og : Oper} {g : Nat} {t : Tmp} {u : Bool}
end
end Go.Proofs.YtjnobnmjhpmpfaaW.PrintLast
