/- Words that began as a print of the kit's tool; what this seat's rows don't name was struck by trim.py. -/
import Derived.Test.YtdbomnhdpniigaaWInv
import Derived.Test.YtdbomnhdpniigaaWFootNe
namespace Go.Proofs.YtdbomnhdpniigaaW.PrintWords
open Go.RowKit
end Go.Proofs.YtdbomnhdpniigaaW.PrintWords
namespace Go.Proofs.YtdbomnhdpniigaaW.PrintLast
section
variable {ops : Array Oper} {a : Act} {o og : Oper} {g : Nat} {t : Tmp} {u : Bool}
end
end Go.Proofs.YtdbomnhdpniigaaW.PrintLast
