/- For all weights and every quota the program's WeightedFamily and the reference's answer alike, the weights stay, and the result is memory of its own. This text: words that the proof rests on. -/
import Derived.Test.YtenmlpngnpjpjaaCFnExactWeightedFamilyWNw
/-! ### 52. A row that stays read whatever happens to a block (a set of blocks) doesn't lie there -/
namespace Go.Proofs.YtenmlpngnpjpjaaW.PrintWords
open Go.RowKit
namespace Kd
section
variable {α : Type} {d : Kd α} {W : World} {g n : Nat} {S ok : Nat → Prop} {A : Option Addr} {ad : Addr} {xs : List α}
end
end Kd
end Go.Proofs.YtenmlpngnpjpjaaW.PrintWords
