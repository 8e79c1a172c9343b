/- What an argument that can be read is bounded by, kind by kind, for the law FnExactProbeIndexOf. No condition. -/
import Derived.Test.YtgklmafdbgnohaaFPAs1
namespace Go.Proofs.Ytgklmafdbgnohaa.PA
open Go.RowKit Go.Proofs.YtgklmafdbgnohaaW.PrintWords
set_option linter.unusedVariables false
set_option linter.unusedSimpArgs false
def g_str (s : ByteArray) : Prop := s.size ≤ maxLen
def g_int (n : Int) : Prop := (Lit.int .i64 n).wf = true
def g_box (x : S87) : Prop := g_int x.f0 ∧ g_int x.f1 ∧ g_int x.f2 ∧ g_int x.f3 ∧ g_int x.f4 ∧ g_int x.f5
def g_boxes (l : List S87) : Prop := l.length ≤ maxLen ∧ ∀ x ∈ l, g_box x
def g_tube (x : S38) : Prop := g_str x.f0 ∧ g_boxes x.f1
def g_tubes (l : List S38) : Prop := l.length ≤ maxLen ∧ ∀ x ∈ l, g_tube x
end Go.Proofs.Ytgklmafdbgnohaa.PA
