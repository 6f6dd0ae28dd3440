/- For all schemes the program's EitherScheme and the reference's answer alike, the arguments stay, and the result is memory of its own. This text: words that the proof rests on. -/
import Derived.Test.YtjpbemomocccaaaCFnExactEitherSchemeWWordsw
namespace Go.Proofs.YtjpbemomocccaaaW.PrintWords
open Go.RowKit
section
variable {P : Program} {ops : Array Oper} {rest : List Oper} {o : Oper} {a : Act} {Q : Exit → Act → World → Prop} {W : World}
end
end Go.Proofs.YtjpbemomocccaaaW.PrintWords
