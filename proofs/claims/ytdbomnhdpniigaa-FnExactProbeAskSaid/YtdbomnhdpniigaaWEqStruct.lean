/- Words that began as a print of the kit's tool; what this seat's rows don't name was struck by trim.py. -/
import Derived.Test.YtdbomnhdpniigaaWWords
import Derived.Laws.StructEq
/-! ### 53. '==' of structs as_ one Bool -/
namespace Go.Proofs.YtdbomnhdpniigaaW.PrintWords
open Go.RowKit
section
variable {P : Program} {d : Nat} {xs ys : Array Value} {f : Field} {fs : List Field} {a b : Value} {r s : Bool} {w : World}
end
end Go.Proofs.YtdbomnhdpniigaaW.PrintWords
