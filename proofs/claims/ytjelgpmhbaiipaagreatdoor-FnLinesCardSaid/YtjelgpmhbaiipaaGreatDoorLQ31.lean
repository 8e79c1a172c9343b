/- The bytes of an argument that can be read are bytes. No condition. -/
import Derived.DataShut
import Derived.Test.YtjelgpmhbaiipaaGreatDoorLP30
namespace Go.Proofs.YtjelgpmhbaiipaaGreatDoor.PA
set_option linter.unusedVariables false
set_option linter.unusedSimpArgs false
open Go.RowKit Go.Proofs.YtjelgpmhbaiipaaGreatDoorW.PrintWords
theorem g_bytes_b {l : List Int} (w : g_bytes l) : ∀ x ∈ l, 0 ≤ x ∧ x ≤ 255 := by
 intro x hx
 have h := (Lit.wf_int_iff _ _).1 (w.2 x hx)
 have h0 : IntKind.u8.min = 0 := rfl
 have h1 : IntKind.u8.max = 255 := rfl
 omega
end Go.Proofs.YtjelgpmhbaiipaaGreatDoor.PA
