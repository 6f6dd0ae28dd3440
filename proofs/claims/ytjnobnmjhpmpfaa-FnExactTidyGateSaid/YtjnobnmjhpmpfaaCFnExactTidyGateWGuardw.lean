/- For all arguments the program's TidyGate and the reference's answer alike, the argument stays, and the result is memory of its own. This text: words that the proof rests on. -/
import Derived.Test.YtjnobnmjhpmpfaaCFnExactTidyGateWWordsw
/-! ### 58. A guarded operation whose guard is known to want it: the same goal without the guard -/
namespace Go.Proofs.YtjnobnmjhpmpfaaW.PrintWords
open Go.RowKit
section
variable {P : Program} {ops : Array Oper} {rest : List Oper} {o : Oper} {a : Act} {Q : Exit → Act → World → Prop} {W : World}
end
end Go.Proofs.YtjnobnmjhpmpfaaW.PrintWords
