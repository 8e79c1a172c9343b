/- Words that began as a print of the kit's tool; what this seat's rows don't name was struck by trim.py. -/
import Derived.Test.YtfoapgcnjnogiaaWInv
import Derived.Test.YtfoapgcnjnogiaaWFootNe
namespace Go.Proofs.YtfoapgcnjnogiaaW.PrintWords
open Go.RowKit
end Go.Proofs.YtfoapgcnjnogiaaW.PrintWords
namespace Go.Proofs.YtfoapgcnjnogiaaW.PrintLast
section
variable {ops : Array Oper} {a : Act} {o og : Oper} {g : Nat} {t : Tmp} {u : Bool}
end
end Go.Proofs.YtfoapgcnjnogiaaW.PrintLast
