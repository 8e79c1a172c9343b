/- Short forms for the walks that carry a reader (IsS113). No condition. -/
import Derived.Test.YtgklmafdbgnohaaGreatXPAs1
import Derived.Test.YtgklmafdbgnohaaGreatXZCx5
set_option linter.unusedVariables false
set_option linter.unusedSimpArgs false
namespace Go.Proofs.YtgklmafdbgnohaaGreat.Z
open Go.RowKit Go.Proofs.YtgklmafdbgnohaaGreat.PA Go.Proofs.YtgklmafdbgnohaaGreatW.PrintWords Go.Proofs.YtgklmafdbgnohaaGreatW.PrintLast Go.Proofs.YtgklmafdbgnohaaGreatW.PrintMore
section
variable {w0 w W:World} {g gb:Nat} {a a':List Int} {b b':Int}
theorem qi (h:Aside0 (IsS113 w0 w g a b)) (t:IsS113 w0 w g a b→IsS113 w0 W g a' b':=by
    (intro hq_;(repeat (first | (with_reducible first | exact hq_ | apply IsS113.alloc | apply IsS113.drewN | apply IsS113.drew | apply IsS113.set_1 | refine IsS113.far ?_ (Aside0.out (by assumption)) _) | exact hq_)))):IsS113 w0 W g a' b':=t h.out
theorem qk (w w1:World) (g:Nat) (h:Aside0 (KeepBut w w1 g none)) (t:KeepBut w w1 g none→KeepBut w W g none:=by
    (intro hq_;(repeat (first | (with_reducible first | exact hq_ | apply KeepBut.set_ | apply keep_drewN | apply keep_drew | apply keep_alloc | refine keep_far ?_ (Aside0.out (by assumption)) _) | exact hq_)))):KeepBut w W g none:=t h.out
theorem qb (i:Aside0 (IsS113 w0 w g a b)) {w1:World} (h:Aside0 (Below w0.heap.size w0 w1)) (t:w0.heap.size≤g→Below w0.heap.size w0 w1→Below w0.heap.size w0 W:=by
    (intro hi_ hq_;(repeat (first | (with_reducible first | exact hq_ | apply below_alloc | apply pw_below_drewN | apply below_drew1 | refine below_set ?_ hi_ | refine below_set ?_ (Aside0.out (by assumption))) | exact hq_)))):Below w0.heap.size w0 W:=t (IsS113.ge i.out) h.out
theorem ns (hg:gb=W.heap.size) (h:KeepBut w W g none):Aside0 (w.heap.size≤gb):=⟨by rw [hg];exact keep_size h⟩
theorem nt (hg:gb=W.heap.size) (i:Aside0 (w0.heap.size≤w.heap.size)) (h:KeepBut w W g none):Aside0 (w0.heap.size≤gb):=⟨Nat.le_trans i.out (by rw [hg];exact keep_size h)⟩
theorem ku {w1 w2:World} (h:KeepBut w w1 g none) (hk:KeepBut w1 w2 g none):Aside0 (KeepBut w w2 g none):=⟨KeepBut.trans h hk (.inl rfl)⟩
theorem kv {w1 w2:World} {g':Nat} {o:Obj} (hk:KeepBut w1 w2 g none) (hb:w1.heap[g']? = some o) (n:Aside0 (g'≠g)):Aside0 (w2.heap[g']? = some o):=⟨KeepBut.blk hk hb n.out (by simp)⟩
end
end Go.Proofs.YtgklmafdbgnohaaGreat.Z
