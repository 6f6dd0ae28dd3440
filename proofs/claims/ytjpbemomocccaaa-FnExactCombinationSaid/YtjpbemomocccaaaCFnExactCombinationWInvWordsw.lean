/- For all arguments the program's Combination and the reference's answer alike, the arguments stay, and the result is memory of its own. This text: words that the proof rests on. -/
import Derived.Test.YtjpbemomocccaaaCFnExactCombinationWInvw
import Derived.Test.YtjpbemomocccaaaCFnExactCombinationWFootNew
namespace Go.Proofs.YtjpbemomocccaaaW.PrintWords
open Go.RowKit
end Go.Proofs.YtjpbemomocccaaaW.PrintWords
namespace Go.Proofs.YtjpbemomocccaaaW.PrintLast
section
variable {ops : Array Oper} {a : Act} {o og : Oper} {g : Nat} {t : Tmp} {u : Bool}
end
end Go.Proofs.YtjpbemomocccaaaW.PrintLast
