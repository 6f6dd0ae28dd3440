/- For all schemes the program's EitherScheme and the reference's answer alike, the arguments stay, and the result is memory of its own. This text: words that the proof rests on. -/
import Derived.Test.YtjpbemomocccaaaCFnExactEitherSchemeWWordsw
import Derived.Test.YtjpbemomocccaaaCFnExactEitherSchemeWLastw
namespace Go.Proofs.YtjpbemomocccaaaW.PrintWords
open Go.RowKit
namespace Kd
section
variable {α : Type} {d : Kd α} {e base g o n cap : Nat} {ok okp : Nat → Prop} {w W : World} {v : Value} {xs : List α}
end
section
variable {α : Type} {enc : α → Value} {h1 : ∀ x, (enc x).oneCell' = true} {e base g o n cap : Nat} {ok : Nat → Prop} {W : World} {xs : List α}
end
end Kd
end Go.Proofs.YtjpbemomocccaaaW.PrintWords
