/- For every matrix the program's DeterminantOf and the reference's answer alike, and the argument stays. This text: words that the proof rests on. -/
import Derived.Test.YtjpbemomocccaaaCFnExactDeterminantOfWWordsw
import Derived.Laws.StructEq
/-! ### 53. '==' of structs as_ one Bool -/
namespace Go.Proofs.YtjpbemomocccaaaW.PrintWords
open Go.RowKit
section
variable {P : Program} {d : Nat} {xs ys : Array Value} {f : Field} {fs : List Field} {a b : Value} {r s : Bool} {w : World}
end
end Go.Proofs.YtjpbemomocccaaaW.PrintWords
