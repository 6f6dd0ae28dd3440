/- For all matrices the program's StackRows and the reference's answer alike, the arguments stay, and the result is memory of its own. This text: words that the proof rests on. -/
import Derived.Test.YtopgelloghblaaaCFnExactStackRowsWWordsw
/-! ### 58. A guarded operation whose guard is known to want it: the same goal without the guard -/
namespace Go.Proofs.YtopgelloghblaaaW.PrintWords
open Go.RowKit
section
variable {P : Program} {ops : Array Oper} {rest : List Oper} {o : Oper} {a : Act} {Q : Exit → Act → World → Prop} {W : World}
end
end Go.Proofs.YtopgelloghblaaaW.PrintWords
