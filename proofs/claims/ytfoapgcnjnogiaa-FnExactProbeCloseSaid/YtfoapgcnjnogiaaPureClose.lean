/- FnExactProbeClose: the program's ProbeClose and the reference's give one answer at all pairs of boxes. No condition. -/
import Derived.Test.YtfoapgcnjnogiaaQ1
namespace Go.Proofs.Ytfoapgcnjnogiaa.Pure
open Go.RowKit Go.Proofs.Ytfoapgcnjnogiaa.PA Go.Proofs.Ytfoapgcnjnogiaa.Q Go.Proofs.YtfoapgcnjnogiaaW.PrintWords Go.Proofs.YtfoapgcnjnogiaaW.PrintLast
theorem FnExactProbeClose (x y : S24) (_ : g_box x) (_ : g_box y) : ∃ k, laws_FnExactProbeClose.f k x.f0 x.f1 x.f2 x.f3 x.f4 x.f5 y.f0 y.f1 y.f2 y.f3 y.f4 y.f5 = some true := by
  refine Ev.rounds (g := fun k => laws_FnExactProbeClose.f k x.f0 x.f1 x.f2 x.f3 x.f4 x.f5 y.f0 y.f1 y.f2 y.f3 y.f4 y.f5) ?_
  simp only [laws_FnExactProbeClose.f, laws_toProbeBox.f, Option.bind_some]
  refine Ev.bind (spec_close _ _ _ _ _ _ _ _ _ _ _ _) (Ev.bind (impl_close _ _ _ _ _ _ _ _ _ _ _ _) ?_)
  exact Ev.pos rfl (Ev.neg (by simp) (Ev.now true))
end Go.Proofs.Ytfoapgcnjnogiaa.Pure
