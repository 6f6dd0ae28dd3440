/- For any two byte lists the law of spanned lists, combinations and solutions answers true. This text: words that the proof rests on. -/
import Derived.Test.YtjpbemomocccaaaCFnCombinationWWordsw
import Derived.Laws.StructEq
/-! ### 53. '==' of structs as_ one Bool -/
namespace Go.Proofs.YtjpbemomocccaaaW.PrintWords
open Go.RowKit
section
variable {P : Program} {d : Nat} {xs ys : Array Value} {f : Field} {fs : List Field} {a b : Value} {r s : Bool} {w : World}
end
end Go.Proofs.YtjpbemomocccaaaW.PrintWords
