/- What an argument that can be read is bounded by, kind by kind, for the law FnExactProbeBoxOk. No condition. -/
import Derived.Test.YtfoapgcnjnogiaaPFnExactProbeBoxOkx0
namespace Go.Proofs.Ytfoapgcnjnogiaa.PFnExactProbeBoxOk
open Go.RowKit Go.Proofs.YtfoapgcnjnogiaaW.PrintWords
def g_int (n : Int) : Prop := (Lit.int .i64 n).wf = true
def kk_box : Kd (Int × Int × Int × Int × Int × Int) := Kd.pair (Kd.int .i64) (Kd.pair (Kd.int .i64) (Kd.pair (Kd.int .i64) (Kd.pair (Kd.int .i64) (Kd.pair (Kd.int .i64) (Kd.int .i64)))))
def g_box (p : Int × Int × Int × Int × Int × Int) : Prop := g_int p.1 ∧ g_int p.2.1 ∧ g_int p.2.2.1 ∧ g_int p.2.2.2.1 ∧ g_int p.2.2.2.2.1 ∧ g_int p.2.2.2.2.2
end Go.Proofs.Ytfoapgcnjnogiaa.PFnExactProbeBoxOk
