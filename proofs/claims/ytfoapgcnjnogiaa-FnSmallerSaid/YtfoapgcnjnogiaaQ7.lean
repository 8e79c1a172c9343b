/- How the laws look at two tubes at a tick. No condition beside what is typed. -/
import Derived.Test.YtfoapgcnjnogiaaQ6
namespace Go.Proofs.Ytfoapgcnjnogiaa.Q
open Go.RowKit Go.Proofs.Ytfoapgcnjnogiaa.PA Go.Proofs.YtfoapgcnjnogiaaW.PrintWords Go.Proofs.YtfoapgcnjnogiaaW.PrintLast Go.Proofs.YtfoapgcnjnogiaaW.PrintMore

def wab (a : Int) : Int := if a < 0 then wrap64 (-a) else a
def nearT (x y : S26) (t : Int) : Bool := decide (x.f4 ≤ t ∧ t ≤ x.f5 ∧ y.f4 ≤ t ∧ t ≤ y.f5 ∧ wab (wrap64 (x.f0 - y.f0)) < 2 ∧ wab (wrap64 (x.f1 - y.f1)) < 2 ∧ x.f2 ≤ x.f3 ∧ x.f2 ≤ y.f3 ∧ y.f2 ≤ x.f3 ∧ y.f2 ≤ y.f3)
theorem abs_eq (a : Int) : laws_wAbs.f a = some (wab a) := by
 unfold laws_wAbs.f wab
 split <;> rfl
theorem wnear_l {x y : S26} (h0 : 0 ≤ x.f2) (h1 : x.f3 ≤ 6) (d : Nat) : ∀ z : Int, 0 ≤ z → (x.f3 + 1 - z).toNat = d → Ev (fun k => laws_wNear.l0 k z x.f0 x.f1 x.f2 x.f3 x.f4 x.f5 y.f0 y.f1 y.f2 y.f3 y.f4 y.f5) (decide (z ≤ x.f3 ∧ z ≤ y.f3 ∧ y.f2 ≤ x.f3 ∧ y.f2 ≤ y.f3)) := by
 induction d with
 | zero =>
  intro z hz hd
  exact Ev.step (fun k => laws_wNear.l0.eq_2 ..) (Ev.neg (by omega) (Ev.eq (Ev.now false) (by rw [eq_comm, decide_eq_false_iff_not]; omega)))
 | succ d ih =>
  intro z hz hd
  have hw : wrap64 (z + 1) = z + 1 := wr (by omega) (by omega)
  have hi := ih (z + 1) (by omega) (by omega)
  rw [← hw] at hi
  refine Ev.step (fun k => laws_wNear.l0.eq_2 ..) (Ev.pos (by omega) ?_)
  by_cases h2 : z ≥ y.f2
  ·by_cases h3 : z ≤ y.f3
   ·exact Ev.pos h2 (Ev.pos h3 (Ev.eq (Ev.now true) (by rw [eq_comm, decide_eq_true_eq]; omega)))
   ·exact Ev.pos h2 (Ev.neg h3 (Ev.eq hi (by rw [decide_eq_decide]; omega)))
  ·exact Ev.neg h2 (Ev.eq hi (by rw [decide_eq_decide]; omega))
theorem wnear_no {a b c d e f a' b' c' d' e' f' : Int} {v : Bool} (h : v = false) : Ev (fun k => laws_wNear.j0 k true a b c d e f a' b' c' d' e' f') v :=
 h ▸ Ev.step (fun k => laws_wNear.j0.eq_2 ..) (Ev.pos rfl (Ev.now false))
theorem bOk_bounds {x : S26} (h : bOk x = true) : 0 ≤ x.f0 ∧ x.f0 ≤ 15 ∧ 0 ≤ x.f1 ∧ x.f1 ≤ 15 ∧ 0 ≤ x.f2 ∧ x.f2 ≤ x.f3 ∧ x.f3 ≤ 6 ∧ 0 ≤ x.f4 ∧ x.f4 ≤ x.f5 ∧ x.f5 ≤ 10000 := ok_bounds h
theorem wnear {x : S26} (hx : bOk x = true) (y : S26) (t : Int) : Ev (fun k => laws_wNear.f k x.f0 x.f1 x.f2 x.f3 x.f4 x.f5 y.f0 y.f1 y.f2 y.f3 y.f4 y.f5 t) (nearT x y t) := by
 have hb := bOk_bounds hx
 unfold laws_wNear.f
 by_cases h1 : t < x.f4
 ·exact Ev.pos h1 (wnear_no (by rw [nearT, decide_eq_false_iff_not]; omega))
 by_cases h2 : t > x.f5
 ·exact Ev.neg h1 (Ev.pos h2 (wnear_no (by rw [nearT, decide_eq_false_iff_not]; omega)))
 by_cases h3 : t < y.f4
 ·exact Ev.neg h1 (Ev.neg h2 (Ev.pos h3 (wnear_no (by rw [nearT, decide_eq_false_iff_not]; omega))))
 by_cases h4 : t > y.f5
 ·exact Ev.neg h1 (Ev.neg h2 (Ev.neg h3 (Ev.pos h4 (wnear_no (by rw [nearT, decide_eq_false_iff_not]; omega)))))
 refine Ev.neg h1 (Ev.neg h2 (Ev.neg h3 (Ev.neg h4 (Ev.bind (Ev.is (abs_eq _)) ?_))))
 by_cases h5 : wab (wrap64 (x.f0 - y.f0)) ≥ 2
 ·exact Ev.pos h5 (wnear_no (by rw [nearT, decide_eq_false_iff_not]; omega))
 refine Ev.neg h5 (Ev.bind (Ev.is (abs_eq _)) ?_)
 by_cases h6 : wab (wrap64 (x.f1 - y.f1)) ≥ 2
 ·rw [decide_eq_true h6]
  exact wnear_no (by rw [nearT, decide_eq_false_iff_not]; omega)
 ·rw [decide_eq_false h6]
  exact Ev.step (fun k => laws_wNear.j0.eq_2 ..) (Ev.neg (by simp) (Ev.eq (wnear_l (by omega) (by omega) _ x.f2 (by omega) rfl) (by rw [nearT, decide_eq_decide]; omega)))
def nearL (l l' : List S26) (t : Int) : Bool := l.any fun x => l'.any fun y => nearT x y t
theorem near_row {s s' : ByteArray} {l l' : List S26} {t : Int} (hl : l.length ≤ 100) (hl' : l'.length ≤ 100) (ho : l.all bOk = true) {i : Nat} (hi : i < l.length) {R : Bool} (hy : Ev (fun k => laws_wNearAt.l0 k t ((i + 1 : Nat) : Int) s l s' l') R) :
  ∀ j : Nat, j ≤ l'.length → Ev (fun k => laws_wNearAt.l1 k t (i : Int) (j : Int) s l s' l') (((l'.drop j).any fun y => nearT l[i] y t) || R) :=
 drop_ind l' (P := fun j r => Ev (fun k => laws_wNearAt.l1 k t (i : Int) (j : Int) s l s' l') ((r.any fun y => nearT l[i] y t) || R))
  (Ev.step (fun k => laws_wNearAt.l1.eq_2 ..) (Ev.neg (by omega) (by rw [w64 hi (by omega)]; exact hy)))
  (fun j hj ih => by
   refine Ev.step (fun k => laws_wNearAt.l1.eq_2 ..) (Ev.pos (by omega) (Ev.pos (by omega) (Ev.pos (by omega) (Ev.pos (by omega) ?_))))
   rw [rd26 hi, rd26 hj, w64 hj (by omega)]
   refine Ev.bind (wnear (bOk_of ho hi) _ _) ?_
   by_cases h : nearT l[i] l'[j] t = true
   ·exact Ev.pos h (Ev.eq (Ev.now true) (by rw [List.any_cons, h]; rfl))
   ·exact Ev.neg h (Ev.eq ih (by rw [List.any_cons, Bool.eq_false_iff.2 h, Bool.false_or])))
theorem near_l {s s' : ByteArray} {l l' : List S26} {t : Int} (hl : l.length ≤ 100) (hl' : l'.length ≤ 100) (ho : l.all bOk = true) : ∀ i : Nat, i ≤ l.length → Ev (fun k => laws_wNearAt.l0 k t (i : Int) s l s' l') ((l.drop i).any fun x => l'.any fun y => nearT x y t) :=
 drop_ind l (P := fun i r => Ev (fun k => laws_wNearAt.l0 k t (i : Int) s l s' l') (r.any fun x => l'.any fun y => nearT x y t))
  (Ev.step (fun k => laws_wNearAt.l0.eq_2 ..) (Ev.neg (by omega) (Ev.now false)))
  (fun i hi ih => Ev.step (fun k => laws_wNearAt.l0.eq_2 ..) (Ev.pos (by omega) (Ev.eq (near_row hl hl' ho hi ih 0 (by omega)) rfl)))
theorem nearAt (s s' : ByteArray) {l l' : List S26} (t : Int) (hl : l.length ≤ 100) (hl' : l'.length ≤ 100) (ho : l.all bOk = true) : Ev (fun k => laws_wNearAt.f k s l s' l' t) (nearL l l' t) := by
 unfold laws_wNearAt.f
 exact near_l hl hl' ho 0 (by omega)
theorem ever_l1 {s s' : ByteArray} {l l' : List S26} (hl : l.length ≤ 100) (hl' : l'.length ≤ 100) (ho : l.all bOk = true) : ∀ j : Nat, j ≤ l'.length → Ev (fun k => laws_wEver.l1 k (j : Int) s l s' l') ((l'.drop j).any fun y => nearL l l' y.f4) :=
 drop_ind l' (P := fun j r => Ev (fun k => laws_wEver.l1 k (j : Int) s l s' l') (r.any fun y => nearL l l' y.f4))
  (Ev.step (fun k => laws_wEver.l1.eq_2 ..) (Ev.neg (by omega) (Ev.now false)))
  (fun j hj ih => by
   refine Ev.step (fun k => laws_wEver.l1.eq_2 ..) (Ev.pos (by omega) (Ev.pos (by omega) ?_))
   rw [rd26 hj, w64 hj (by omega)]
   refine Ev.bind (nearAt _ _ _ hl hl' ho) ?_
   by_cases h : nearL l l' l'[j].f4 = true
   ·exact Ev.pos h (Ev.eq (Ev.now true) (by rw [List.any_cons, h]; rfl))
   ·exact Ev.neg h (Ev.eq ih (by rw [List.any_cons, Bool.eq_false_iff.2 h, Bool.false_or])))
theorem ever_l0 {s s' : ByteArray} {l l' : List S26} (hl : l.length ≤ 100) (hl' : l'.length ≤ 100) (ho : l.all bOk = true) : ∀ i : Nat, i ≤ l.length → Ev (fun k => laws_wEver.l0 k (i : Int) s l s' l') (((l.drop i).any fun x => nearL l l' x.f4) || l'.any fun y => nearL l l' y.f4) :=
 drop_ind l (P := fun i r => Ev (fun k => laws_wEver.l0 k (i : Int) s l s' l') ((r.any fun x => nearL l l' x.f4) || l'.any fun y => nearL l l' y.f4))
  (Ev.step (fun k => laws_wEver.l0.eq_2 ..) (Ev.neg (by omega) (Ev.eq (ever_l1 hl hl' ho 0 (by omega)) rfl)))
  (fun i hi ih => by
   refine Ev.step (fun k => laws_wEver.l0.eq_2 ..) (Ev.pos (by omega) (Ev.pos (by omega) ?_))
   rw [rd26 hi, w64 hi (by omega)]
   refine Ev.bind (nearAt _ _ _ hl hl' ho) ?_
   by_cases h : nearL l l' l[i].f4 = true
   ·exact Ev.pos h (Ev.eq (Ev.now true) (by rw [List.any_cons, h]; rfl))
   ·exact Ev.neg h (Ev.eq ih (by rw [List.any_cons, Bool.eq_false_iff.2 h, Bool.false_or])))
theorem ever (s s' : ByteArray) {l l' : List S26} (hl : l.length ≤ 100) (hl' : l'.length ≤ 100) (ho : l.all bOk = true) : Ev (fun k => laws_wEver.f k s l s' l') ((l.any fun x => nearL l l' x.f4) || l'.any fun y => nearL l l' y.f4) := by
 unfold laws_wEver.f
 exact ever_l0 hl hl' ho 0 (by omega)

/-! ### What the best of a meeting is -/
/-- The state is the best of the pairs seen. -/
def Best (l l' : List S26) (seen : S26 → S26 → Prop) : St → Prop
 | none => ∀ x y, seen x y → ¬ (bNear x y).2 = true
 | some t => (∃ i j : Nat, t.2.1 = i ∧ t.2.2 = j ∧ ∃ (hi : i < l.length) (hj : j < l'.length), bNear l[i] l'[j] = (t.1, true)) ∧ ∀ x y, seen x y → (bNear x y).2 = true → t.1 ≤ (bNear x y).1
theorem Best.one {l l' : List S26} {seen : S26 → S26 → Prop} {st : St} (h : Best l l' seen st) {i j : Nat} (hi : i < l.length) (hj : j < l'.length) : Best l l' (fun x y => seen x y ∨ (x = l[i] ∧ y = l'[j])) (better st l[i] l'[j] i j) := by
 by_cases hn : (bNear l[i] l'[j]).2 = true
 ·cases st with
  | none =>
   simp only [better, hn, if_true]
   refine ⟨⟨i, j, rfl, rfl, hi, hj, Prod.ext rfl hn⟩, ?_⟩
   rintro x y (hs | ⟨rfl, rfl⟩) hxy
   ·exact absurd hxy (h x y hs)
   ·exact Int.le_refl _
  | some t =>
   simp only [better, hn, if_true]
   by_cases ht : (bNear l[i] l'[j]).1 < t.1
   ·rw [if_pos ht]
    refine ⟨⟨i, j, rfl, rfl, hi, hj, Prod.ext rfl hn⟩, ?_⟩
    rintro x y (hs | ⟨rfl, rfl⟩) hxy
    ·have := h.2 x y hs hxy
     show (bNear l[i] l'[j]).1 ≤ _
     omega
    ·exact Int.le_refl _
   ·rw [if_neg ht]
    refine ⟨h.1, ?_⟩
    rintro x y (hs | ⟨rfl, rfl⟩) hxy
    ·exact h.2 x y hs hxy
    ·omega
 ·rw [show better st l[i] l'[j] i j = st by simp only [better, hn]; rfl]
  cases st with
  | none =>
   rintro x y (hs | ⟨rfl, rfl⟩)
   ·exact h x y hs
   ·exact hn
  | some t =>
   refine ⟨h.1, ?_⟩
   rintro x y (hs | ⟨rfl, rfl⟩) hxy
   ·exact h.2 x y hs hxy
   ·exact absurd hxy hn
theorem Best.mono {l l' : List S26} {seen seen' : S26 → S26 → Prop} {st : St} (h : Best l l' seen st) (hs : ∀ x y, seen' x y → seen x y) : Best l l' seen' st := by
 cases st with
 | none => exact fun x y hh => h x y (hs x y hh)
 | some t => exact ⟨h.1, fun x y hh => h.2 x y (hs x y hh)⟩
theorem Best.row {l l' : List S26} {i : Nat} (hi : i < l.length) : ∀ j : Nat, j ≤ l'.length → ∀ (seen : S26 → S26 → Prop) (st : St), Best l l' seen st → Best l l' (fun x y => seen x y ∨ (x = l[i] ∧ y ∈ l'.drop j)) (meetRow l[i] i (l'.drop j) j st) :=
 drop_ind l' (P := fun j r => ∀ (seen : S26 → S26 → Prop) (st : St), Best l l' seen st → Best l l' (fun x y => seen x y ∨ (x = l[i] ∧ y ∈ r)) (meetRow l[i] i r j st))
  (fun seen st h => h.mono (by simp))
  (fun j hj ih seen st h => (ih _ _ (h.one hi hj)).mono (by
   rintro x y (h | ⟨rfl, h⟩)
   ·exact .inl (.inl h)
   ·rcases List.mem_cons.1 h with rfl | h
    ·exact .inl (.inr ⟨rfl, rfl⟩)
    ·exact .inr ⟨rfl, h⟩))
theorem Best.all {l l' : List S26} : ∀ i : Nat, i ≤ l.length → ∀ (seen : S26 → S26 → Prop) (st : St), Best l l' seen st → Best l l' (fun x y => seen x y ∨ (x ∈ l.drop i ∧ y ∈ l')) (meetAll l' (l.drop i) i st) :=
 drop_ind l (P := fun i r => ∀ (seen : S26 → S26 → Prop) (st : St), Best l l' seen st → Best l l' (fun x y => seen x y ∨ (x ∈ r ∧ y ∈ l')) (meetAll l' r i st))
  (fun seen st h => h.mono (by simp))
  (fun i hi ih seen st h => (ih _ _ (Best.row hi 0 (by omega) seen st h)).mono (by
   rintro x y (h | ⟨h, h'⟩)
   ·exact .inl (.inl h)
   ·rcases List.mem_cons.1 h with rfl | h
    ·exact .inl (.inr ⟨rfl, h'⟩)
    ·exact .inr ⟨h, h'⟩))
theorem best (l l' : List S26) : Best l l' (fun x y => x ∈ l ∧ y ∈ l') (meetSt l l') :=
 (Best.all (l := l) (l' := l') 0 (by omega) (fun _ _ => False) none (fun _ _ h => h.elim)).mono (fun _ _ h => .inr h)
theorem bNear_comm (x y : S26) : bNear x y = bNear y x := by
 unfold bNear near mx
 grind
theorem wab_wr {a b : Int} (h0 : 0 ≤ a) (h1 : a ≤ 15) (h2 : 0 ≤ b) (h3 : b ≤ 15) : wab (wrap64 (a - b)) < 2 ↔ a - b ≤ 1 ∧ b - a ≤ 1 := by
 rw [wdiff h0 h1 h2 h3]
 unfold wab
 split
 ·rw [wr (by omega) (by omega)]
  omega
 ·omega
theorem nearT_iff {x y : S26} (hx : bOk x = true) (hy : bOk y = true) (t : Int) : nearT x y t = true ↔ (bNear x y).2 = true ∧ (bNear x y).1 ≤ t ∧ t ≤ x.f5 ∧ t ≤ y.f5 := by
 have h := bOk_bounds hx
 have h' := bOk_bounds hy
 have e0 := wab_wr h.1 h.2.1 h'.1 h'.2.1
 have e1 := wab_wr h.2.2.1 h.2.2.2.1 h'.2.2.1 h'.2.2.2.1
 simp only [nearT, decide_eq_true_eq, e0, e1, bNear, near, mx]
 grind
theorem nearT_at {x y : S26} (hx : bOk x = true) (hy : bOk y = true) (hn : (bNear x y).2 = true) : nearT x y (bNear x y).1 = true := by
 rw [nearT_iff hx hy]
 have h := bOk_bounds hx
 have h' := bOk_bounds hy
 revert hn
 simp only [bNear, near, mx]
 grind
theorem bNear_bounds {x y : S26} (hx : bOk x = true) (hy : bOk y = true) (hn : (bNear x y).2 = true) : 0 ≤ (bNear x y).1 ∧ (bNear x y).1 ≤ 10000 := by
 have h := bOk_bounds hx
 have h' := bOk_bounds hy
 revert hn
 simp only [bNear, near, mx]
 grind
end Go.Proofs.Ytfoapgcnjnogiaa.Q
