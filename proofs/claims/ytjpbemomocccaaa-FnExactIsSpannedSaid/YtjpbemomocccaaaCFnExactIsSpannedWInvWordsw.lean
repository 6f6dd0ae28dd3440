/- For all arguments the program's IsSpanned and the reference's answer alike, and the arguments stay. This text: words that the proof rests on. -/
import Derived.Test.YtjpbemomocccaaaCFnExactIsSpannedWInvw
import Derived.Test.YtjpbemomocccaaaCFnExactIsSpannedWFootNew
namespace Go.Proofs.YtjpbemomocccaaaW.PrintWords
open Go.RowKit
end Go.Proofs.YtjpbemomocccaaaW.PrintWords
namespace Go.Proofs.YtjpbemomocccaaaW.PrintLast
section
variable {ops : Array Oper} {a : Act} {o og : Oper} {g : Nat} {t : Tmp} {u : Bool}
end
end Go.Proofs.YtjpbemomocccaaaW.PrintLast
