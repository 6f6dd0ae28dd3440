/- For all schemes the program's EitherScheme and the reference's answer alike, the arguments stay, and the result is memory of its own. This text: words that the proof rests on. -/
import Derived.Test.YtjpbemomocccaaaCFnExactEitherSchemeWWordsw
import Derived.Laws.StructEq
namespace Go.Proofs.YtjpbemomocccaaaW.PrintWords
open Go.RowKit
section
variable {P : Program} {d : Nat} {xs ys : Array Value} {f : Field} {fs : List Field} {a b : Value} {r s : Bool} {w : World}
end
end Go.Proofs.YtjpbemomocccaaaW.PrintWords
