/- Rows of rows handed to what writes them: they are told apart by their blocks' types. No condition. -/
import Derived.Test.YtdbomnhdpniigaaWWords
import Derived.Test.YtdbomnhdpniigaaWLast
import Derived.Test.YtdbomnhdpniigaaWMore
import Derived.Test.YtdbomnhdpniigaaWApart
import Derived.Test.YtdbomnhdpniigaaWKept
import Derived.Test.YtdbomnhdpniigaaWN
namespace Go.Proofs.Ytdbomnhdpniigaa.Z
open Go.RowKit Go.Proofs.YtdbomnhdpniigaaW.PrintWords Go.Proofs.YtdbomnhdpniigaaW.PrintLast Go.Proofs.YtdbomnhdpniigaaW.PrintMore
/-- The call's own blocks of the types in Qs. -/
def TYP (Qs : List Nat) (b : Nat) (W : World) (k : Nat) : Prop := b ≤ k ∧ ∃ q, q ∈ Qs ∧ ∃ cells, W.heap[k]? = some (.cells cells q (0, 0))
section
variable {α : Type} {d : Kd α} {e base b : Nat} {w W W2 : World} {ok okp : Nat → Prop} {v : Value} {xs : List α} {Qs : List Nat}
theorem S_typ (h : Kd.S d e W base ok v xs) : Kd.S d e W base (fun k => ok k ∧ TYP (e :: d.E) base W k) v xs :=
  Kd.S_mono (Kd.S_bound h) (fun _ hk => ⟨hk.1, hk.2.1, hk.2.2.2⟩)
theorem S_ghost {w' : World} (h : Kd.S d e w' W.heap.size ok v xs) : ∃ n, n = W.heap.size ∧ Kd.S d e w' n ok v xs := ⟨_, rfl, h⟩
theorem S_elderN {w1 : World} {n : Nat} (h : Kd.S d e W base ok v xs) (hn : n = W.heap.size) (hb : Below W.heap.size W w1) : Kd.S d e w1 base (fun k => ok k ∧ k < n) v xs :=
  Kd.S_mono (Kd.S_below (Kd.S_bound h) hb) (fun k hk => ⟨hk.1, by rw [hn]; exact hk.2.2.1⟩)
theorem S_newN {w1 : World} {n : Nat} {u : Value} (hn : n = W.heap.size) (h : Kd.S d e w1 n ok v xs) (hlt : ∀ k, u.ownBlock = some k → k < W.heap.size) : Kd.S d e w1 n (fun k => ok k ∧ some k ≠ u.ownBlock) v xs := by
  subst hn
  exact Kd.S_new' h hlt
theorem S_typN (h : Kd.S d e W base ok v xs) (hb : b ≤ base) : Kd.S d e W b (fun k => ok k ∧ TYP (e :: d.E) base W k) v xs :=
  Kd.S_lower (S_typ h) hb
theorem S_keptN {S : Nat → Prop} (h : Kd.S d e W base ok v xs) (hk : Kept W W2 S) (hne : ∀ k, base ≤ k → ¬ S k) : Kd.S d e W2 base ok v xs :=
  Kd.S_mono (Kd.S_kept (Kd.S_bound h) hk (fun k h1 => hne k h1.2.1)) (fun _ h => h.1)
theorem S_reokP {S : Nat → Prop} (h : Kd.S d e W base (fun k => ok k ∧ S k) v xs) : Kd.S d e W base ok v xs := Kd.S_mono h (fun _ hk => hk.1)
theorem N_nil_S (h : Kd.N d e W base ok v []) : Kd.S d e W base (fun _ => True) v [] := by
  obtain ⟨_, rows, hl, hR, _⟩ := h
  obtain rfl : rows = [] := List.eq_nil_of_length_eq_zero hl
  obtain ⟨_, inner, ho, hr⟩ := hR
  have hi : inner = [] := List.eq_nil_of_length_eq_zero (by have := hr.1; simpa using this)
  subst hi
  exact ⟨fun _ => 0, fun _ _ => trivial, [], ho, Reps.none _ _⟩
theorem R_keptT (h : d.R e W base ok v xs) (hk : Kept W W2 (fun k => okp k ∧ TYP Qs b W k)) (hq : ∀ q, q ∈ e :: d.E → ∀ p, p ∈ Qs → q ≠ p) : d.R e W2 base ok v xs :=
  Kd.R_mono (Kd.R_kept (Kd.R_bound h) hk (fun k h1 h2 => by
    obtain ⟨_, _, _, q, hq1, cs, hc⟩ := h1
    obtain ⟨_, _, p, hp, cs', hc'⟩ := h2
    rw [hc] at hc'
    injection hc' with hc'
    injection hc' with _ hc'
    exact hq q hq1 p hp hc')) (fun _ h => h.1)
theorem S_keptT (h : Kd.S d e W base ok v xs) (hk : Kept W W2 (fun k => okp k ∧ TYP Qs b W k)) (hq : ∀ q, q ∈ e :: d.E → ∀ p, p ∈ Qs → q ≠ p) : Kd.S d e W2 base ok v xs :=
  Kd.S_mono (Kd.S_kept (Kd.S_bound h) hk (fun k h1 h2 => by
    obtain ⟨_, _, _, q, hq1, cs, hc⟩ := h1
    obtain ⟨_, _, p, hp, cs', hc'⟩ := h2
    rw [hc] at hc'
    injection hc' with hc'
    injection hc' with _ hc'
    exact hq q hq1 p hp hc')) (fun _ h => h.1)
theorem R_keptA {S : Nat → Prop} (hE : d.E = []) (h : d.R e W base ok v xs) (hk : Kept W W2 S) (hne : ∀ k, v.ownBlock = some k → ¬ S k) : d.R e W2 base ok v xs :=
  Kd.R_mono (Kd.R_kept (Kd.R_tight hE h) hk (fun k h1 h2 => hne k h1.symm h2)) (fun k h1 => h.1 k h1.symm)
theorem blk_keptT {g t : Nat} {cs : Array Value} (h : W.heap[g]? = some (.cells cs t (0, 0))) (hk : Kept W W2 (fun k => okp k ∧ TYP Qs b W k)) (hq : ∀ p, p ∈ Qs → t ≠ p) : W2.heap[g]? = some (.cells cs t (0, 0)) :=
  blk_kept h hk (fun h2 => by
    obtain ⟨_, _, p, hp, cs', hc'⟩ := h2
    rw [h] at hc'
    injection hc' with hc'
    injection hc' with _ hc'
    exact hq p hp hc')
end
end Go.Proofs.Ytdbomnhdpniigaa.Z
