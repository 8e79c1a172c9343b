/- Rows of rows handed to what writes them: they are told apart by their blocks' types. No condition. -/
import Derived.Test.YtgklmafdbgnohaaGreatFW0
namespace Go.Proofs.YtgklmafdbgnohaaGreat.Z
open Go.RowKit Go.Proofs.YtgklmafdbgnohaaGreatW.PrintWords Go.Proofs.YtgklmafdbgnohaaGreatW.PrintLast Go.Proofs.YtgklmafdbgnohaaGreatW.PrintMore
set_option linter.unusedVariables false
set_option linter.unusedSimpArgs false
def TYP (Qs : List Nat) (b : Nat) (W : World) (k : Nat) : Prop := b ≤ k ∧ ∃ q, q ∈ Qs ∧ ∃ cells, W.heap[k]? = some (.cells cells q (0, 0))
section
variable {α : Type} {d : Kd α} {e base b : Nat} {w W W2 : World} {ok okp : Nat → Prop} {v : Value} {xs : List α} {Qs : List Nat}
theorem S_typ (h : Kd.S d e W base ok v xs) : Kd.S d e W base (fun k => ok k ∧ TYP (e :: d.E) base W k) v xs :=
  Kd.S_mono (Kd.S_bound h) (fun _ hk => ⟨hk.1, hk.2.1, hk.2.2.2⟩)
theorem N_nil_S (h : Kd.N d e W base ok v []) : Kd.S d e W base (fun _ => True) v [] := by
  obtain ⟨_, rows, hl, hR, _⟩ := h
  obtain rfl : rows = [] := List.eq_nil_of_length_eq_zero hl
  obtain ⟨_, inner, ho, hr⟩ := hR
  have hi : inner = [] := List.eq_nil_of_length_eq_zero (by have := hr.1; simpa using this)
  subst hi
  exact ⟨fun _ => 0, fun _ _ => trivial, [], ho, Reps.none _ _⟩
theorem blk_keptT {g t : Nat} {cs : Array Value} (h : W.heap[g]? = some (.cells cs t (0, 0))) (hk : Kept W W2 (fun k => okp k ∧ TYP Qs b W k)) (hq : ∀ p, p ∈ Qs → t ≠ p) : W2.heap[g]? = some (.cells cs t (0, 0)) :=
  blk_kept h hk (fun h2 => by
    obtain ⟨_, _, p, hp, cs', hc'⟩ := h2
    rw [h] at hc'
    injection hc' with hc'
    injection hc' with _ hc'
    exact hq p hp hc')
end
end Go.Proofs.YtgklmafdbgnohaaGreat.Z
