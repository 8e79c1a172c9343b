/- Words that began as a print of the kit's tool; what this seat's rows don't name was struck by trim.py. -/
import Derived.Test.YtfoapgcnjnogiaaWN
/-! ### 52. A row that stays read whatever happens to a block (a set of blocks) doesn't lie there -/
namespace Go.Proofs.YtfoapgcnjnogiaaW.PrintWords
open Go.RowKit
namespace Kd
section
variable {α : Type} {d : Kd α} {W : World} {g n : Nat} {S ok : Nat → Prop} {A : Option Addr} {ad : Addr} {xs : List α}
end
end Kd
end Go.Proofs.YtfoapgcnjnogiaaW.PrintWords
