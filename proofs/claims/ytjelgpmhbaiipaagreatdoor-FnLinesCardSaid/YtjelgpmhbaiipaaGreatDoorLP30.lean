/- What an argument that can be read is bounded by, kind by kind, for the law FnLines. No condition. -/
import Derived.Test.YtjelgpmhbaiipaaGreatDoorLPAs4
namespace Go.Proofs.YtjelgpmhbaiipaaGreatDoor.PA
open Go.RowKit Go.Proofs.YtjelgpmhbaiipaaGreatDoorW.PrintWords
def g_u8 (n : Int) : Prop := (Lit.int .u8 n).wf = true
def g_bytes (l : List Int) : Prop := l.length ≤ maxLen ∧ ∀ x ∈ l, g_u8 x
end Go.Proofs.YtjelgpmhbaiipaaGreatDoor.PA
