/- FnExactProbeBoxOk: the program's ProbeBoxOk and the reference's give one answer at every box. No condition. -/
import Derived.Test.YtfoapgcnjnogiaaPFnExactProbeBoxOkx1
import Derived.Test.YtfoapgcnjnogiaaGoodFnExactProbeBoxOk
namespace Go.Proofs.Ytfoapgcnjnogiaa.Pure
open Go.RowKit Go.Proofs.Ytfoapgcnjnogiaa.PFnExactProbeBoxOk Go.Proofs.YtfoapgcnjnogiaaW.PrintWords Go.Proofs.YtfoapgcnjnogiaaW.PrintLast

theorem l1In_eq (a b c : Int) : spec_l1In.f a b c = some (decide (b ≤ a ∧ a ≤ c)) := by
  unfold spec_l1In.f
  grind
theorem in_eq (a b c : Int) : impl_in.f a b c = some (decide (b ≤ a ∧ a ≤ c)) := by
  unfold impl_in.f
  grind
theorem both (a b c d e f : Int) : spec_ProbeBoxOk.f a b c d e f = impl_ProbeBoxOk.f a b c d e f ∧ ∃ r, impl_ProbeBoxOk.f a b c d e f = some r := by
  simp only [spec_ProbeBoxOk.f, impl_ProbeBoxOk.f, l1In_eq, in_eq, Option.bind_some, decide_eq_true_eq]
  grind

theorem FnExactProbeBoxOk (p : Int × Int × Int × Int × Int × Int) (_ : g_box p) : laws_FnExactProbeBoxOk.f p.1 p.2.1 p.2.2.1 p.2.2.2.1 p.2.2.2.2.1 p.2.2.2.2.2 = some true := by
  obtain ⟨a, b, c, d, e, f⟩ := p
  obtain ⟨h, r, hr⟩ := both a b c d e f
  simp only [laws_FnExactProbeBoxOk.f, laws_toProbeBox.f, Option.bind_some, h, hr]
  simp

end Go.Proofs.Ytfoapgcnjnogiaa.Pure
