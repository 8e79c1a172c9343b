/- Short forms for the walks that carry a reader (IsS77). No condition. -/
import Derived.Test.YtjelgpmhbaiipaaGreatDoorFPAs4
import Derived.Test.YtjelgpmhbaiipaaGreatDoorFZCx1
namespace Go.Proofs.YtjelgpmhbaiipaaGreatDoor.Z
open Go.RowKit Go.Proofs.YtjelgpmhbaiipaaGreatDoor.PA Go.Proofs.YtjelgpmhbaiipaaGreatDoorW.PrintWords Go.Proofs.YtjelgpmhbaiipaaGreatDoorW.PrintLast Go.Proofs.YtjelgpmhbaiipaaGreatDoorW.PrintMore
section
variable {w0 w W : World} {g gb : Nat} {a a' : List Int} {b b' : Int}
theorem ns (hg : gb = W.heap.size) (h : KeepBut w W g none) : Aside0 (w.heap.size ≤ gb) := ⟨by rw [hg]; exact keep_size h⟩
end
end Go.Proofs.YtjelgpmhbaiipaaGreatDoor.Z
