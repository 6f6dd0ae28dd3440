/- For all arguments the program's PutGate and the reference's answer alike, the arguments stay, and the result is memory of its own. This text: words that the proof rests on. -/
import Derived.Test.YtjnobnmjhpmpfaaCFnExactPutGateWNw
/-! ### 52. A row that stays read whatever happens to a block (a set of blocks) doesn't lie there -/
namespace Go.Proofs.YtjnobnmjhpmpfaaW.PrintWords
open Go.RowKit
namespace Kd
section
variable {α : Type} {d : Kd α} {W : World} {g n : Nat} {S ok : Nat → Prop} {A : Option Addr} {ad : Addr} {xs : List α}
end
end Kd
end Go.Proofs.YtjnobnmjhpmpfaaW.PrintWords
