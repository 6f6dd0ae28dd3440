/- For every text the program's ReadGate and the reference's read alike, and the result is memory of its own. This text: words that the proof rests on. -/
import Derived.Test.YtijmdlhcidjpmaaDoorCFnExactReadGateWNw
namespace Go.Proofs.YtijmdlhcidjpmaaDoorW.PrintWords
open Go.RowKit
namespace Kd
section
variable {α : Type} {d : Kd α} {W : World} {g n : Nat} {S ok : Nat → Prop} {A : Option Addr} {ad : Addr} {xs : List α}
end
end Kd
end Go.Proofs.YtijmdlhcidjpmaaDoorW.PrintWords
