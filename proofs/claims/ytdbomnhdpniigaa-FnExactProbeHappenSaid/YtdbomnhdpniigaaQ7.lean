/- How the laws look at two tubes at a tick. No condition beside what is typed. -/
import Derived.Test.YtdbomnhdpniigaaQ6
namespace Go.Proofs.Ytdbomnhdpniigaa.Q
open Go.RowKit Go.Proofs.Ytdbomnhdpniigaa.PA Go.Proofs.YtdbomnhdpniigaaW.PrintWords Go.Proofs.YtdbomnhdpniigaaW.PrintLast Go.Proofs.YtdbomnhdpniigaaW.PrintMore

def wab (a : Int) : Int := if a < 0 then wrap64 (-a) else a
def nearT (x y : S95) (t : Int) : Bool := decide (x.f4 ≤ t ∧ t ≤ x.f5 ∧ y.f4 ≤ t ∧ t ≤ y.f5 ∧ wab (wrap64 (x.f0 - y.f0)) < 2 ∧ wab (wrap64 (x.f1 - y.f1)) < 2 ∧ x.f2 ≤ x.f3 ∧ x.f2 ≤ y.f3 ∧ y.f2 ≤ x.f3 ∧ y.f2 ≤ y.f3)
theorem bOk_bounds {x : S95} (h : bOk x = true) : 0 ≤ x.f0 ∧ x.f0 ≤ 15 ∧ 0 ≤ x.f1 ∧ x.f1 ≤ 15 ∧ 0 ≤ x.f2 ∧ x.f2 ≤ x.f3 ∧ x.f3 ≤ 6 ∧ 0 ≤ x.f4 ∧ x.f4 ≤ x.f5 ∧ x.f5 ≤ 10000 := ok_bounds h
def nearL (l l' : List S95) (t : Int) : Bool := l.any fun x => l'.any fun y => nearT x y t
/-! ### What the best of a meeting is -/
/-- The state is the best of the pairs seen. -/
def Best (l l' : List S95) (seen : S95 → S95 → Prop) : St → Prop
 | none => ∀ x y, seen x y → ¬ (bNear x y).2 = true
 | some t => (∃ i j : Nat, t.2.1 = i ∧ t.2.2 = j ∧ ∃ (hi : i < l.length) (hj : j < l'.length), bNear l[i] l'[j] = (t.1, true)) ∧ ∀ x y, seen x y → (bNear x y).2 = true → t.1 ≤ (bNear x y).1
theorem Best.one {l l' : List S95} {seen : S95 → S95 → Prop} {st : St} (h : Best l l' seen st) {i j : Nat} (hi : i < l.length) (hj : j < l'.length) : Best l l' (fun x y => seen x y ∨ (x = l[i] ∧ y = l'[j])) (better st l[i] l'[j] i j) := by
 by_cases hn : (bNear l[i] l'[j]).2 = true
 ·cases st with
  | none =>
   simp only [better, hn, if_true]
   refine ⟨⟨i, j, rfl, rfl, hi, hj, Prod.ext rfl hn⟩, ?_⟩
   rintro x y (hs | ⟨rfl, rfl⟩) hxy
   ·exact absurd hxy (h x y hs)
   ·exact Int.le_refl _
  | some t =>
   simp only [better, hn, if_true]
   by_cases ht : (bNear l[i] l'[j]).1 < t.1
   ·rw [if_pos ht]
    refine ⟨⟨i, j, rfl, rfl, hi, hj, Prod.ext rfl hn⟩, ?_⟩
    rintro x y (hs | ⟨rfl, rfl⟩) hxy
    ·have := h.2 x y hs hxy
     show (bNear l[i] l'[j]).1 ≤ _
     omega
    ·exact Int.le_refl _
   ·rw [if_neg ht]
    refine ⟨h.1, ?_⟩
    rintro x y (hs | ⟨rfl, rfl⟩) hxy
    ·exact h.2 x y hs hxy
    ·omega
 ·rw [show better st l[i] l'[j] i j = st by simp only [better, hn]; rfl]
  cases st with
  | none =>
   rintro x y (hs | ⟨rfl, rfl⟩)
   ·exact h x y hs
   ·exact hn
  | some t =>
   refine ⟨h.1, ?_⟩
   rintro x y (hs | ⟨rfl, rfl⟩) hxy
   ·exact h.2 x y hs hxy
   ·exact absurd hxy hn
theorem Best.mono {l l' : List S95} {seen seen' : S95 → S95 → Prop} {st : St} (h : Best l l' seen st) (hs : ∀ x y, seen' x y → seen x y) : Best l l' seen' st := by
 cases st with
 | none => exact fun x y hh => h x y (hs x y hh)
 | some t => exact ⟨h.1, fun x y hh => h.2 x y (hs x y hh)⟩
theorem Best.row {l l' : List S95} {i : Nat} (hi : i < l.length) : ∀ j : Nat, j ≤ l'.length → ∀ (seen : S95 → S95 → Prop) (st : St), Best l l' seen st → Best l l' (fun x y => seen x y ∨ (x = l[i] ∧ y ∈ l'.drop j)) (meetRow l[i] i (l'.drop j) j st) :=
 drop_ind l' (P := fun j r => ∀ (seen : S95 → S95 → Prop) (st : St), Best l l' seen st → Best l l' (fun x y => seen x y ∨ (x = l[i] ∧ y ∈ r)) (meetRow l[i] i r j st))
  (fun seen st h => h.mono (by simp))
  (fun j hj ih seen st h => (ih _ _ (h.one hi hj)).mono (by
   rintro x y (h | ⟨rfl, h⟩)
   ·exact .inl (.inl h)
   ·rcases List.mem_cons.1 h with rfl | h
    ·exact .inl (.inr ⟨rfl, rfl⟩)
    ·exact .inr ⟨rfl, h⟩))
theorem Best.all {l l' : List S95} : ∀ i : Nat, i ≤ l.length → ∀ (seen : S95 → S95 → Prop) (st : St), Best l l' seen st → Best l l' (fun x y => seen x y ∨ (x ∈ l.drop i ∧ y ∈ l')) (meetAll l' (l.drop i) i st) :=
 drop_ind l (P := fun i r => ∀ (seen : S95 → S95 → Prop) (st : St), Best l l' seen st → Best l l' (fun x y => seen x y ∨ (x ∈ r ∧ y ∈ l')) (meetAll l' r i st))
  (fun seen st h => h.mono (by simp))
  (fun i hi ih seen st h => (ih _ _ (Best.row hi 0 (by omega) seen st h)).mono (by
   rintro x y (h | ⟨h, h'⟩)
   ·exact .inl (.inl h)
   ·rcases List.mem_cons.1 h with rfl | h
    ·exact .inl (.inr ⟨rfl, h'⟩)
    ·exact .inr ⟨h, h'⟩))
theorem best (l l' : List S95) : Best l l' (fun x y => x ∈ l ∧ y ∈ l') (meetSt l l') :=
 (Best.all (l := l) (l' := l') 0 (by omega) (fun _ _ => False) none (fun _ _ h => h.elim)).mono (fun _ _ h => .inr h)
theorem bNear_comm (x y : S95) : bNear x y = bNear y x := by
 unfold bNear near mx
 grind
theorem wab_wr {a b : Int} (h0 : 0 ≤ a) (h1 : a ≤ 15) (h2 : 0 ≤ b) (h3 : b ≤ 15) : wab (wrap64 (a - b)) < 2 ↔ a - b ≤ 1 ∧ b - a ≤ 1 := by
 rw [wdiff h0 h1 h2 h3]
 unfold wab
 split
 ·rw [wr (by omega) (by omega)]
  omega
 ·omega
theorem nearT_iff {x y : S95} (hx : bOk x = true) (hy : bOk y = true) (t : Int) : nearT x y t = true ↔ (bNear x y).2 = true ∧ (bNear x y).1 ≤ t ∧ t ≤ x.f5 ∧ t ≤ y.f5 := by
 have h := bOk_bounds hx
 have h' := bOk_bounds hy
 have e0 := wab_wr h.1 h.2.1 h'.1 h'.2.1
 have e1 := wab_wr h.2.2.1 h.2.2.2.1 h'.2.2.1 h'.2.2.2.1
 simp only [nearT, decide_eq_true_eq, e0, e1, bNear, near, mx]
 grind
theorem nearT_at {x y : S95} (hx : bOk x = true) (hy : bOk y = true) (hn : (bNear x y).2 = true) : nearT x y (bNear x y).1 = true := by
 rw [nearT_iff hx hy]
 have h := bOk_bounds hx
 have h' := bOk_bounds hy
 revert hn
 simp only [bNear, near, mx]
 grind
theorem bNear_bounds {x y : S95} (hx : bOk x = true) (hy : bOk y = true) (hn : (bNear x y).2 = true) : 0 ≤ (bNear x y).1 ∧ (bNear x y).1 ≤ 10000 := by
 have h := bOk_bounds hx
 have h' := bOk_bounds hy
 revert hn
 simp only [bNear, near, mx]
 grind
end Go.Proofs.Ytdbomnhdpniigaa.Q
