/- Short forms for the walks that carry a reader (IsS127). No condition. -/
import Derived.Test.YtdbomnhdpniigaaPAs
import Derived.Test.YtdbomnhdpniigaaCx
namespace Go.Proofs.Ytdbomnhdpniigaa.Z
open Go.RowKit Go.Proofs.Ytdbomnhdpniigaa.PA Go.Proofs.YtdbomnhdpniigaaW.PrintWords Go.Proofs.YtdbomnhdpniigaaW.PrintLast Go.Proofs.YtdbomnhdpniigaaW.PrintMore
section
variable {w0 w W : World} {g gb : Nat} {a a' : List Int} {b b' : Int}
theorem qi (h : Aside0 (IsS127 w0 w g a b)) (t : IsS127 w0 w g a b → IsS127 w0 W g a' b' := by
    (intro hq_; (repeat (first | (with_reducible first | exact hq_ | apply IsS127.alloc | apply IsS127.drewN | apply IsS127.drew | apply IsS127.set_1 | refine IsS127.far ?_ (Aside0.out (by assumption)) _) | exact hq_)))) : IsS127 w0 W g a' b' := t h.out
theorem qk (w w1 : World) (g : Nat) (h : Aside0 (KeepBut w w1 g none)) (t : KeepBut w w1 g none → KeepBut w W g none := by
    (intro hq_; (repeat (first | (with_reducible first | exact hq_ | apply KeepBut.set_ | apply keep_drewN | apply keep_drew | apply keep_alloc | refine keep_far ?_ (Aside0.out (by assumption)) _) | exact hq_)))) : KeepBut w W g none := t h.out
theorem qb (i : Aside0 (IsS127 w0 w g a b)) {w1 : World} (h : Aside0 (Below w0.heap.size w0 w1)) (t : w0.heap.size ≤ g → Below w0.heap.size w0 w1 → Below w0.heap.size w0 W := by
    (intro hi_ hq_; (repeat (first | (with_reducible first | exact hq_ | apply below_alloc | apply pw_below_drewN | apply below_drew1 | refine below_set ?_ hi_ | refine below_set ?_ (Aside0.out (by assumption))) | exact hq_)))) : Below w0.heap.size w0 W := t (IsS127.ge i.out) h.out
theorem ns (hg : gb = W.heap.size) (h : KeepBut w W g none) : Aside0 (w.heap.size ≤ gb) := ⟨by rw [hg]; exact keep_size h⟩
theorem nt (hg : gb = W.heap.size) (i : Aside0 (w0.heap.size ≤ w.heap.size)) (h : KeepBut w W g none) : Aside0 (w0.heap.size ≤ gb) := ⟨Nat.le_trans i.out (by rw [hg]; exact keep_size h)⟩
theorem nl (hg : gb = W.heap.size) (h : IsS127 w0 W g a b) : Aside0 (g ≠ gb) := ⟨by rw [hg]; exact Nat.ne_of_lt (IsS127.lt h)⟩
theorem nr (hg : gb = W.heap.size) (h : IsS127 w0 W g a b) : Aside0 (gb ≠ g) := ⟨by rw [hg]; exact Nat.ne_of_gt (IsS127.lt h)⟩
theorem kt {w1 w2 : World} (h : KeepBut w w1 g none) (hb : Below w1.heap.size w1 w2) : Aside0 (KeepBut w w2 g none) := ⟨KeepBut.trans h (KeepBut.of_below hb g none) (.inl rfl)⟩
theorem ku {w1 w2 : World} (h : KeepBut w w1 g none) (hk : KeepBut w1 w2 g none) : Aside0 (KeepBut w w2 g none) := ⟨KeepBut.trans h hk (.inl rfl)⟩
theorem kv {w1 w2 : World} {g' : Nat} {o : Obj} (hk : KeepBut w1 w2 g none) (hb : w1.heap[g']? = some o) (n : Aside0 (g' ≠ g)) : Aside0 (w2.heap[g']? = some o) := ⟨KeepBut.blk hk hb n.out (by simp)⟩
end
end Go.Proofs.Ytdbomnhdpniigaa.Z
