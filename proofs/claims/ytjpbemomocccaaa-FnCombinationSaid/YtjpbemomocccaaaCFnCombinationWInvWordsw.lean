/- For any two byte lists the law of spanned lists, combinations and solutions answers true. This text: words that the proof rests on. -/
import Derived.Test.YtjpbemomocccaaaCFnCombinationWInvw
import Derived.Test.YtjpbemomocccaaaCFnCombinationWFootNew
namespace Go.Proofs.YtjpbemomocccaaaW.PrintWords
open Go.RowKit
end Go.Proofs.YtjpbemomocccaaaW.PrintWords
namespace Go.Proofs.YtjpbemomocccaaaW.PrintLast
section
variable {ops : Array Oper} {a : Act} {o og : Oper} {g : Nat} {t : Tmp} {u : Bool}
end
end Go.Proofs.YtjpbemomocccaaaW.PrintLast
