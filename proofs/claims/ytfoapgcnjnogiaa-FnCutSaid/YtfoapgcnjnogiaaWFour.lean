/- Words that began as a print of the kit's tool; what this seat's rows don't name was struck by trim.py. -/
import Derived.Test.YtfoapgcnjnogiaaWTab
/-! ### 56. Four, five, six operations that may come up next, in any order -/
namespace Go.Proofs.YtfoapgcnjnogiaaW.PrintLast
section
variable {P : Program} {ops : Array Oper} {Q : Exit → Act → World → Prop} {md : Region.Mode} {S : World → Prop} {ds : List Nat} {T : Bool × List (List Nat × List Nat)}
end
end Go.Proofs.YtfoapgcnjnogiaaW.PrintLast
