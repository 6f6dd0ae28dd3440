/- For any two byte lists the law of spanned lists, combinations and solutions answers true. This text: words that the proof rests on. -/
import Derived.Test.YtjpbemomocccaaaCFnCombinationWTabw
/-! ### 56. Four, five, six operations that may come up next, in any order -/
namespace Go.Proofs.YtjpbemomocccaaaW.PrintLast
section
variable {P : Program} {ops : Array Oper} {Q : Exit → Act → World → Prop} {md : Region.Mode} {S : World → Prop} {ds : List Nat} {T : Bool × List (List Nat × List Nat)}
end
end Go.Proofs.YtjpbemomocccaaaW.PrintLast
