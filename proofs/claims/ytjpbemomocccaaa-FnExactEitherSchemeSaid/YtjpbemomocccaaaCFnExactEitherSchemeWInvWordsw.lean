/- For all schemes the program's EitherScheme and the reference's answer alike, the arguments stay, and the result is memory of its own. This text: words that the proof rests on. -/
import Derived.Test.YtjpbemomocccaaaCFnExactEitherSchemeWInvw
import Derived.Test.YtjpbemomocccaaaCFnExactEitherSchemeWFootNew
namespace Go.Proofs.YtjpbemomocccaaaW.PrintWords
open Go.RowKit
end Go.Proofs.YtjpbemomocccaaaW.PrintWords
namespace Go.Proofs.YtjpbemomocccaaaW.PrintLast
section
variable {ops : Array Oper} {a : Act} {o og : Oper} {g : Nat} {t : Tmp} {u : Bool}
end
end Go.Proofs.YtjpbemomocccaaaW.PrintLast
