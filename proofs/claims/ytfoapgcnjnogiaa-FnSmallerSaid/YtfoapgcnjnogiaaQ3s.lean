/- What ProbeSmaller computes, program and reference. No condition beside the sizes that are typed. -/
import Derived.Test.YtfoapgcnjnogiaaQ3
namespace Go.Proofs.Ytfoapgcnjnogiaa.Q
open Go.RowKit Go.Proofs.Ytfoapgcnjnogiaa.PA Go.Proofs.YtfoapgcnjnogiaaW.PrintWords Go.Proofs.YtfoapgcnjnogiaaW.PrintLast Go.Proofs.YtfoapgcnjnogiaaW.PrintMore

/-! ### Within -/
def cover (b a : S26) : Bool := decide (a.f0 = b.f0 ∧ a.f1 = b.f1 ∧ b.f2 ≤ a.f2 ∧ a.f3 ≤ b.f3 ∧ b.f4 ≤ a.f4 ∧ a.f5 ≤ b.f5)
def smaller (s : ByteArray) (l : List S26) (s' : ByteArray) (l' : List S26) : Bool := tubeOk s l && tubeOk s' l' && l.all fun a => l'.any fun b => cover b a
theorem spec_cover (b a : S26) : spec_l2Cover.f b.f0 b.f1 b.f2 b.f3 b.f4 b.f5 a.f0 a.f1 a.f2 a.f3 a.f4 a.f5 = some (cover b a) := by
 unfold spec_l2Cover.f cover
 grind
theorem impl_cover (b a : S26) : impl_within.f a.f0 a.f1 a.f2 a.f3 a.f4 a.f5 b.f0 b.f1 b.f2 b.f3 b.f4 b.f5 = some (cover b a) := by
 unfold impl_within.f cover
 grind
/-- One row: is some of the rest over a? 'f': found so far. -/
theorem spec_sm_row {s s' : ByteArray} {l l' : List S26} (hl : l.length ≤ 40) (hl' : l'.length ≤ 40) {i : Nat} (hi : i < l.length) {R : Bool} (hy : Ev (fun k => spec_ProbeSmaller.l0 k ((i + 1 : Nat) : Int) s l s' l') R) :
  ∀ j : Nat, j ≤ l'.length → ∀ f : Bool, Ev (fun k => spec_ProbeSmaller.l1 k (i : Int) f (j : Int) s l s' l') (if (f || (l'.drop j).any fun b => cover b l[i]) = true then R else false) :=
 drop_ind l' (P := fun j r => ∀ f : Bool, Ev (fun k => spec_ProbeSmaller.l1 k (i : Int) f (j : Int) s l s' l') (if (f || r.any fun b => cover b l[i]) = true then R else false))
  (fun f => by
   cases f with
   | true =>
    refine Ev.step (f := fun k => spec_ProbeSmaller.l0 k ((i + 1 : Nat) : Int) s l s' l') (fun k => ?_) hy
    simp only [spec_ProbeSmaller.l1]
    rw [if_neg (by omega), if_pos trivial, w64 hi (by omega)]
   | false =>
    refine Ev.step (f := fun _ => some false) (fun k => ?_) (Ev.is rfl)
    simp only [spec_ProbeSmaller.l1]
    rw [if_neg (by omega)]
    rfl)
  (fun j hj ih f => by
   cases f with
   | true =>
    refine Ev.step (f := fun k => spec_ProbeSmaller.l1 k (i : Int) true ((j + 1 : Nat) : Int) s l s' l') (fun k => ?_) (Ev.eq (ih true) rfl)
    simp only [spec_ProbeSmaller.l1]
    rw [if_pos (by omega), if_pos trivial, w64 hj (by omega)]
   | false =>
    refine Ev.step (f := fun k => spec_ProbeSmaller.l1 k (i : Int) (cover l'[j] l[i]) ((j + 1 : Nat) : Int) s l s' l') (fun k => ?_) (Ev.eq (ih _) (by rw [List.any_cons, Bool.false_or]))
    simp only [spec_ProbeSmaller.l1]
    rw [if_pos (by omega), if_neg (by simp), if_pos (by omega), if_pos (by omega), if_pos (by omega), rd26 hi, rd26 hj, spec_cover, w64 hj (by omega)]
    rfl)
theorem spec_sm_l {s s' : ByteArray} {l l' : List S26} (hl : l.length ≤ 40) (hl' : l'.length ≤ 40) : ∀ i : Nat, i ≤ l.length → Ev (fun k => spec_ProbeSmaller.l0 k (i : Int) s l s' l') ((l.drop i).all fun a => l'.any fun b => cover b a) :=
 drop_ind l (P := fun i r => Ev (fun k => spec_ProbeSmaller.l0 k (i : Int) s l s' l') (r.all fun a => l'.any fun b => cover b a))
  (Ev.step (f := fun _ => some true) (fun k => by simp only [spec_ProbeSmaller.l0]; rw [if_neg (by omega)]) (Ev.is rfl))
  (fun i hi ih => by
   refine Ev.step (f := fun k => spec_ProbeSmaller.l1 k (i : Int) false ((0 : Nat) : Int) s l s' l') (fun k => ?_) (Ev.eq (spec_sm_row hl hl' hi ih 0 (by omega) false) ?_)
   ·simp only [spec_ProbeSmaller.l0]
    rw [if_pos (by omega)]
    rfl
   ·rw [List.all_cons, List.drop_zero, Bool.false_or]
    cases l'.any fun b => cover b l[i] <;> rfl)
theorem spec_smaller (s : ByteArray) (l : List S26) (s' : ByteArray) (l' : List S26) : Ev (fun k => spec_ProbeSmaller.f k s l s' l') (smaller s l s' l') := by
 unfold spec_ProbeSmaller.f
 refine Ev.bind (spec_tube s l) ?_
 by_cases h : tubeOk s l = true
 ·refine Ev.pos h (Ev.bind (spec_tube s' l') ?_)
  by_cases h' : tubeOk s' l' = true
  ·refine Ev.step (f := fun k => spec_ProbeSmaller.l0 k ((0 : Nat) : Int) s l s' l') (fun k => ?_) (Ev.eq (spec_sm_l (len_of_tube h).1 (len_of_tube h').1 0 (by omega)) (by simp [smaller, h, h']))
   simp only [spec_ProbeSmaller.j0]
   rw [if_neg (by simp [h'])]
   rfl
  ·refine Ev.step (f := fun _ => some false) (fun k => ?_) (Ev.is (by simp [smaller, h']))
   simp only [spec_ProbeSmaller.j0]
   rw [if_pos (by simpa using h')]
 ·refine Ev.neg h (Ev.step (f := fun _ => some false) (fun k => ?_) (Ev.is (by simp [smaller, h])))
  simp only [spec_ProbeSmaller.j0]
  rfl
theorem impl_sm_row {s' : ByteArray} {l l' : List S26} (hl : l.length ≤ 40) (hl' : l'.length ≤ 40) {i : Nat} (hi : i < l.length) {R : Bool} (hy : Ev (fun k => impl_ProbeSmaller.l0 k l (l.length : Int) ((i + 1 : Nat) : Int) s' l') R) :
  ∀ j : Nat, j ≤ l'.length → ∀ f : Bool, Ev (fun k => impl_ProbeSmaller.l1 k f l (l.length : Int) (i : Int) l' (l'.length : Int) (j : Int) s' l' l[i].f0 l[i].f1 l[i].f2 l[i].f3 l[i].f4 l[i].f5) (if (f || (l'.drop j).any fun b => cover b l[i]) = true then R else false) :=
 drop_ind l' (P := fun j r => ∀ f : Bool, Ev (fun k => impl_ProbeSmaller.l1 k f l (l.length : Int) (i : Int) l' (l'.length : Int) (j : Int) s' l' l[i].f0 l[i].f1 l[i].f2 l[i].f3 l[i].f4 l[i].f5) (if (f || r.any fun b => cover b l[i]) = true then R else false))
  (fun f => by
   cases f with
   | true =>
    refine Ev.step (f := fun k => impl_ProbeSmaller.l0 k l (l.length : Int) ((i + 1 : Nat) : Int) s' l') (fun k => ?_) hy
    simp only [impl_ProbeSmaller.l1]
    rw [if_neg (by omega), if_pos trivial, w64 hi (by omega)]
   | false =>
    refine Ev.step (f := fun _ => some false) (fun k => ?_) (Ev.is rfl)
    simp only [impl_ProbeSmaller.l1]
    rw [if_neg (by omega)]
    rfl)
  (fun j hj ih f => by
   cases f with
   | true =>
    refine Ev.step (f := fun k => impl_ProbeSmaller.l1 k true l (l.length : Int) (i : Int) l' (l'.length : Int) ((j + 1 : Nat) : Int) s' l' l[i].f0 l[i].f1 l[i].f2 l[i].f3 l[i].f4 l[i].f5) (fun k => ?_) (Ev.eq (ih true) rfl)
    simp only [impl_ProbeSmaller.l1]
    rw [if_pos (by omega), if_pos (by omega), if_pos (by omega), if_pos trivial, w64 hj (by omega)]
   | false =>
    refine Ev.step (f := fun k => impl_ProbeSmaller.l1 k (cover l'[j] l[i]) l (l.length : Int) (i : Int) l' (l'.length : Int) ((j + 1 : Nat) : Int) s' l' l[i].f0 l[i].f1 l[i].f2 l[i].f3 l[i].f4 l[i].f5) (fun k => ?_) (Ev.eq (ih _) (by rw [List.any_cons, Bool.false_or]))
    simp only [impl_ProbeSmaller.l1]
    rw [if_pos (by omega), if_pos (by omega), if_pos (by omega), if_neg (by simp), rd26 hj, impl_cover, w64 hj (by omega)]
    rfl)
theorem impl_sm_l {s' : ByteArray} {l l' : List S26} (hl : l.length ≤ 40) (hl' : l'.length ≤ 40) : ∀ i : Nat, i ≤ l.length → Ev (fun k => impl_ProbeSmaller.l0 k l (l.length : Int) (i : Int) s' l') ((l.drop i).all fun a => l'.any fun b => cover b a) :=
 drop_ind l (P := fun i r => Ev (fun k => impl_ProbeSmaller.l0 k l (l.length : Int) (i : Int) s' l') (r.all fun a => l'.any fun b => cover b a))
  (Ev.step (f := fun _ => some true) (fun k => by simp only [impl_ProbeSmaller.l0]; rw [if_neg (by omega)]) (Ev.is rfl))
  (fun i hi ih => by
   refine Ev.step (f := fun k => impl_ProbeSmaller.l1 k false l (l.length : Int) (i : Int) l' (l'.length : Int) ((0 : Nat) : Int) s' l' l[i].f0 l[i].f1 l[i].f2 l[i].f3 l[i].f4 l[i].f5) (fun k => ?_) (Ev.eq (impl_sm_row hl hl' hi ih 0 (by omega) false) ?_)
   ·simp only [impl_ProbeSmaller.l0]
    rw [if_pos (by omega), if_pos (by omega), if_pos (by omega), rd26 hi]
    rfl
   ·rw [List.all_cons, List.drop_zero, Bool.false_or]
    cases l'.any fun b => cover b l[i] <;> rfl)
theorem impl_smaller (s : ByteArray) (l : List S26) (s' : ByteArray) (l' : List S26) : Ev (fun k => impl_ProbeSmaller.f k s l s' l') (smaller s l s' l') := by
 unfold impl_ProbeSmaller.f
 refine Ev.bind (impl_tube s l) ?_
 by_cases h : tubeOk s l = true
 ·refine Ev.pos h (Ev.bind (impl_tube s' l') ?_)
  by_cases h' : tubeOk s' l' = true
  ·refine Ev.step (f := fun k => impl_ProbeSmaller.l0 k l (l.length : Int) ((0 : Nat) : Int) s' l') (fun k => ?_) (Ev.eq (impl_sm_l (len_of_tube h).1 (len_of_tube h').1 0 (by omega)) (by simp [smaller, h, h']))
   simp only [impl_ProbeSmaller.j0]
   rw [if_neg (by simp [h'])]
   rfl
  ·refine Ev.step (f := fun _ => some false) (fun k => ?_) (Ev.is (by simp [smaller, h']))
   simp only [impl_ProbeSmaller.j0]
   rw [if_pos (by simpa using h')]
 ·refine Ev.neg h (Ev.step (f := fun _ => some false) (fun k => ?_) (Ev.is (by simp [smaller, h])))
  simp only [impl_ProbeSmaller.j0]
  rfl

end Go.Proofs.Ytfoapgcnjnogiaa.Q
