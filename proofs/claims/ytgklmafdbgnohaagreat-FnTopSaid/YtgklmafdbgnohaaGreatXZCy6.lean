/- More short forms for the walks. No condition. -/
import Derived.Test.YtgklmafdbgnohaaGreatXZCx5
set_option linter.unusedVariables false
set_option linter.unusedSimpArgs false
namespace Go.Proofs.YtgklmafdbgnohaaGreat.Z
open Go.RowKit Go.Proofs.YtgklmafdbgnohaaGreatW.PrintWords Go.Proofs.YtgklmafdbgnohaaGreatW.PrintLast Go.Proofs.YtgklmafdbgnohaaGreatW.PrintMore
theorem rf {α:Type} {d:Kd α} {e base:Nat} {w W:World} {ok:Nat→Prop} {v:Value} {xs:List α} (h:d.R e w base ok v xs) (t:d.R e w base ok v xs→d.R e W base ok v xs:=by
    (intro hq_;(repeat (first | (with_reducible exact hq_) | (with_reducible first | apply Kd.R_alloc | apply Kd.R_drewN | apply Kd.R_drew) | refine Kd.R_far ?_ (by (intro _ hk_;first | exact hk_.2 | exact hk_.1.2 | exact hk_.1.1.2 | exact hk_.1.1.1.2)) _)))):d.R e W base ok v xs:=t h
theorem rg {α:Type} {d:Kd α} {e base g:Nat} {w w1:World} {ok:Nat→Prop} {v:Value} {xs:List α} (h:d.R e w base ok v xs) (hg:w.grownBy w1 (some g)) (hok:∀ k,ok k→k≠g):Aside0 (d.R e w1 base ok v xs):=⟨Kd.R_grown h hg (fun k hk e=>hok k hk (by injection e))⟩
theorem wg {w0 W w1:World} {g:Nat} (hg:W.grownBy w1 (some g)) (hge:Aside0 (w0.heap.size≤g)) (h:Below w0.heap.size w0 W:=by
    repeat (first | (with_reducible first | exact HB.out | apply below_alloc | apply pw_below_drewN | apply below_drew1 | refine below_set ?_ (Aside0.out (by assumption)) | refine below_set ?_ (by assumption)) | exact HB.out)):Aside0 (Below w0.heap.size w0 w1):=⟨pw_below_grown h (some g) h.size hg (fun k e=>by injection e with e;subst e;exact hge.out)⟩
end Go.Proofs.YtgklmafdbgnohaaGreat.Z
