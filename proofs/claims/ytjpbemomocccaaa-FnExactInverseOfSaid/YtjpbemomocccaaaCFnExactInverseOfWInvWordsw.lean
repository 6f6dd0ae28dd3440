/- For every matrix the program's InverseOf and the reference's answer alike, the argument stays, and the result is memory of its own. This text: words that the proof rests on. -/
import Derived.Test.YtjpbemomocccaaaCFnExactInverseOfWInvw
import Derived.Test.YtjpbemomocccaaaCFnExactInverseOfWFootNew
namespace Go.Proofs.YtjpbemomocccaaaW.PrintWords
open Go.RowKit
end Go.Proofs.YtjpbemomocccaaaW.PrintWords
namespace Go.Proofs.YtjpbemomocccaaaW.PrintLast
section
variable {ops : Array Oper} {a : Act} {o og : Oper} {g : Nat} {t : Tmp} {u : Bool}
end
end Go.Proofs.YtjpbemomocccaaaW.PrintLast
