/- What ProbeSmaller, ProbeMeet, ProbeWith, ProbeFree compute, program and reference. No condition beside the sizes that are typed. -/
import Derived.Test.YtfoapgcnjnogiaaQ2
namespace Go.Proofs.Ytfoapgcnjnogiaa.Q
open Go.RowKit Go.Proofs.Ytfoapgcnjnogiaa.PA Go.Proofs.YtfoapgcnjnogiaaW.PrintWords Go.Proofs.YtfoapgcnjnogiaaW.PrintLast Go.Proofs.YtfoapgcnjnogiaaW.PrintMore

/-! ### Within -/
def cover (b a : S26) : Bool := decide (a.f0 = b.f0 ∧ a.f1 = b.f1 ∧ b.f2 ≤ a.f2 ∧ a.f3 ≤ b.f3 ∧ b.f4 ≤ a.f4 ∧ a.f5 ≤ b.f5)
def smaller (s : ByteArray) (l : List S26) (s' : ByteArray) (l' : List S26) : Bool := tubeOk s l && tubeOk s' l' && l.all fun a => l'.any fun b => cover b a
theorem spec_cover (b a : S26) : spec_l2Cover.f b.f0 b.f1 b.f2 b.f3 b.f4 b.f5 a.f0 a.f1 a.f2 a.f3 a.f4 a.f5 = some (cover b a) := by
  unfold spec_l2Cover.f cover
  grind
theorem impl_cover (b a : S26) : impl_within.f a.f0 a.f1 a.f2 a.f3 a.f4 a.f5 b.f0 b.f1 b.f2 b.f3 b.f4 b.f5 = some (cover b a) := by
  unfold impl_within.f cover
  grind
theorem len_of_tube {s : ByteArray} {l : List S26} (h : tubeOk s l = true) : l.length ≤ 40 ∧ l.all bOk = true := by
  simp only [tubeOk, Bool.and_eq_true, decide_eq_true_eq] at h
  exact ⟨h.1.2, h.2⟩
theorem size_of_tube {s : ByteArray} {l : List S26} (h : tubeOk s l = true) : 1 ≤ s.size ∧ s.size ≤ 8 := by
  simp only [tubeOk, nameOk, Bool.and_eq_true, decide_eq_true_eq] at h
  exact h.1.1.1
/-- One row: is some of the rest over a? 'f': found so far. -/
theorem spec_sm_row {s s' : ByteArray} {l l' : List S26} (hl : l.length ≤ 40) (hl' : l'.length ≤ 40) {i : Nat} (hi : i < l.length) {R : Bool} (hy : Ev (fun k => spec_ProbeSmaller.l0 k ((i + 1 : Nat) : Int) s l s' l') R) :
    ∀ j : Nat, j ≤ l'.length → ∀ f : Bool, Ev (fun k => spec_ProbeSmaller.l1 k (i : Int) f (j : Int) s l s' l') (if (f || (l'.drop j).any fun b => cover b l[i]) = true then R else false) :=
  drop_ind l' (P := fun j r => ∀ f : Bool, Ev (fun k => spec_ProbeSmaller.l1 k (i : Int) f (j : Int) s l s' l') (if (f || r.any fun b => cover b l[i]) = true then R else false))
    (fun f => by
      cases f with
      | true =>
        refine Ev.step (f := fun k => spec_ProbeSmaller.l0 k ((i + 1 : Nat) : Int) s l s' l') (fun k => ?_) hy
        simp only [spec_ProbeSmaller.l1]
        rw [if_neg (by omega), if_pos trivial, w64 hi (by omega)]
      | false =>
        refine Ev.step (f := fun _ => some false) (fun k => ?_) (Ev.is rfl)
        simp only [spec_ProbeSmaller.l1]
        rw [if_neg (by omega)]
        rfl)
    (fun j hj ih f => by
      cases f with
      | true =>
        refine Ev.step (f := fun k => spec_ProbeSmaller.l1 k (i : Int) true ((j + 1 : Nat) : Int) s l s' l') (fun k => ?_) (Ev.eq (ih true) rfl)
        simp only [spec_ProbeSmaller.l1]
        rw [if_pos (by omega), if_pos trivial, w64 hj (by omega)]
      | false =>
        refine Ev.step (f := fun k => spec_ProbeSmaller.l1 k (i : Int) (cover l'[j] l[i]) ((j + 1 : Nat) : Int) s l s' l') (fun k => ?_) (Ev.eq (ih _) (by rw [List.any_cons, Bool.false_or]))
        simp only [spec_ProbeSmaller.l1]
        rw [if_pos (by omega), if_neg (by simp), if_pos (by omega), if_pos (by omega), if_pos (by omega), rd26 hi, rd26 hj, spec_cover, w64 hj (by omega)]
        rfl)
theorem spec_sm_l {s s' : ByteArray} {l l' : List S26} (hl : l.length ≤ 40) (hl' : l'.length ≤ 40) : ∀ i : Nat, i ≤ l.length → Ev (fun k => spec_ProbeSmaller.l0 k (i : Int) s l s' l') ((l.drop i).all fun a => l'.any fun b => cover b a) :=
  drop_ind l (P := fun i r => Ev (fun k => spec_ProbeSmaller.l0 k (i : Int) s l s' l') (r.all fun a => l'.any fun b => cover b a))
    (Ev.step (f := fun _ => some true) (fun k => by simp only [spec_ProbeSmaller.l0]; rw [if_neg (by omega)]) (Ev.is rfl))
    (fun i hi ih => by
      refine Ev.step (f := fun k => spec_ProbeSmaller.l1 k (i : Int) false ((0 : Nat) : Int) s l s' l') (fun k => ?_) (Ev.eq (spec_sm_row hl hl' hi ih 0 (by omega) false) ?_)
      · simp only [spec_ProbeSmaller.l0]
        rw [if_pos (by omega)]
        rfl
      · rw [List.all_cons, List.drop_zero, Bool.false_or]
        cases l'.any fun b => cover b l[i] <;> rfl)
theorem spec_smaller (s : ByteArray) (l : List S26) (s' : ByteArray) (l' : List S26) : Ev (fun k => spec_ProbeSmaller.f k s l s' l') (smaller s l s' l') := by
  unfold spec_ProbeSmaller.f
  refine Ev.bind (spec_tube s l) ?_
  by_cases h : tubeOk s l = true
  · refine Ev.pos h (Ev.bind (spec_tube s' l') ?_)
    by_cases h' : tubeOk s' l' = true
    · refine Ev.step (f := fun k => spec_ProbeSmaller.l0 k ((0 : Nat) : Int) s l s' l') (fun k => ?_) (Ev.eq (spec_sm_l (len_of_tube h).1 (len_of_tube h').1 0 (by omega)) (by simp [smaller, h, h']))
      simp only [spec_ProbeSmaller.j0]
      rw [if_neg (by simp [h'])]
      rfl
    · refine Ev.step (f := fun _ => some false) (fun k => ?_) (Ev.is (by simp [smaller, h']))
      simp only [spec_ProbeSmaller.j0]
      rw [if_pos (by simpa using h')]
  · refine Ev.neg h (Ev.step (f := fun _ => some false) (fun k => ?_) (Ev.is (by simp [smaller, h])))
    simp only [spec_ProbeSmaller.j0]
    rfl
theorem impl_sm_row {s' : ByteArray} {l l' : List S26} (hl : l.length ≤ 40) (hl' : l'.length ≤ 40) {i : Nat} (hi : i < l.length) {R : Bool} (hy : Ev (fun k => impl_ProbeSmaller.l0 k l (l.length : Int) ((i + 1 : Nat) : Int) s' l') R) :
    ∀ j : Nat, j ≤ l'.length → ∀ f : Bool, Ev (fun k => impl_ProbeSmaller.l1 k f l (l.length : Int) (i : Int) l' (l'.length : Int) (j : Int) s' l' l[i].f0 l[i].f1 l[i].f2 l[i].f3 l[i].f4 l[i].f5) (if (f || (l'.drop j).any fun b => cover b l[i]) = true then R else false) :=
  drop_ind l' (P := fun j r => ∀ f : Bool, Ev (fun k => impl_ProbeSmaller.l1 k f l (l.length : Int) (i : Int) l' (l'.length : Int) (j : Int) s' l' l[i].f0 l[i].f1 l[i].f2 l[i].f3 l[i].f4 l[i].f5) (if (f || r.any fun b => cover b l[i]) = true then R else false))
    (fun f => by
      cases f with
      | true =>
        refine Ev.step (f := fun k => impl_ProbeSmaller.l0 k l (l.length : Int) ((i + 1 : Nat) : Int) s' l') (fun k => ?_) hy
        simp only [impl_ProbeSmaller.l1]
        rw [if_neg (by omega), if_pos trivial, w64 hi (by omega)]
      | false =>
        refine Ev.step (f := fun _ => some false) (fun k => ?_) (Ev.is rfl)
        simp only [impl_ProbeSmaller.l1]
        rw [if_neg (by omega)]
        rfl)
    (fun j hj ih f => by
      cases f with
      | true =>
        refine Ev.step (f := fun k => impl_ProbeSmaller.l1 k true l (l.length : Int) (i : Int) l' (l'.length : Int) ((j + 1 : Nat) : Int) s' l' l[i].f0 l[i].f1 l[i].f2 l[i].f3 l[i].f4 l[i].f5) (fun k => ?_) (Ev.eq (ih true) rfl)
        simp only [impl_ProbeSmaller.l1]
        rw [if_pos (by omega), if_pos (by omega), if_pos (by omega), if_pos trivial, w64 hj (by omega)]
      | false =>
        refine Ev.step (f := fun k => impl_ProbeSmaller.l1 k (cover l'[j] l[i]) l (l.length : Int) (i : Int) l' (l'.length : Int) ((j + 1 : Nat) : Int) s' l' l[i].f0 l[i].f1 l[i].f2 l[i].f3 l[i].f4 l[i].f5) (fun k => ?_) (Ev.eq (ih _) (by rw [List.any_cons, Bool.false_or]))
        simp only [impl_ProbeSmaller.l1]
        rw [if_pos (by omega), if_pos (by omega), if_pos (by omega), if_neg (by simp), rd26 hj, impl_cover, w64 hj (by omega)]
        rfl)
theorem impl_sm_l {s' : ByteArray} {l l' : List S26} (hl : l.length ≤ 40) (hl' : l'.length ≤ 40) : ∀ i : Nat, i ≤ l.length → Ev (fun k => impl_ProbeSmaller.l0 k l (l.length : Int) (i : Int) s' l') ((l.drop i).all fun a => l'.any fun b => cover b a) :=
  drop_ind l (P := fun i r => Ev (fun k => impl_ProbeSmaller.l0 k l (l.length : Int) (i : Int) s' l') (r.all fun a => l'.any fun b => cover b a))
    (Ev.step (f := fun _ => some true) (fun k => by simp only [impl_ProbeSmaller.l0]; rw [if_neg (by omega)]) (Ev.is rfl))
    (fun i hi ih => by
      refine Ev.step (f := fun k => impl_ProbeSmaller.l1 k false l (l.length : Int) (i : Int) l' (l'.length : Int) ((0 : Nat) : Int) s' l' l[i].f0 l[i].f1 l[i].f2 l[i].f3 l[i].f4 l[i].f5) (fun k => ?_) (Ev.eq (impl_sm_row hl hl' hi ih 0 (by omega) false) ?_)
      · simp only [impl_ProbeSmaller.l0]
        rw [if_pos (by omega), if_pos (by omega), if_pos (by omega), rd26 hi]
        rfl
      · rw [List.all_cons, List.drop_zero, Bool.false_or]
        cases l'.any fun b => cover b l[i] <;> rfl)
theorem impl_smaller (s : ByteArray) (l : List S26) (s' : ByteArray) (l' : List S26) : Ev (fun k => impl_ProbeSmaller.f k s l s' l') (smaller s l s' l') := by
  unfold impl_ProbeSmaller.f
  refine Ev.bind (impl_tube s l) ?_
  by_cases h : tubeOk s l = true
  · refine Ev.pos h (Ev.bind (impl_tube s' l') ?_)
    by_cases h' : tubeOk s' l' = true
    · refine Ev.step (f := fun k => impl_ProbeSmaller.l0 k l (l.length : Int) ((0 : Nat) : Int) s' l') (fun k => ?_) (Ev.eq (impl_sm_l (len_of_tube h).1 (len_of_tube h').1 0 (by omega)) (by simp [smaller, h, h']))
      simp only [impl_ProbeSmaller.j0]
      rw [if_neg (by simp [h'])]
      rfl
    · refine Ev.step (f := fun _ => some false) (fun k => ?_) (Ev.is (by simp [smaller, h']))
      simp only [impl_ProbeSmaller.j0]
      rw [if_pos (by simpa using h')]
  · refine Ev.neg h (Ev.step (f := fun _ => some false) (fun k => ?_) (Ev.is (by simp [smaller, h])))
    simp only [impl_ProbeSmaller.j0]
    rfl

/-! ### Meet: the best so far is a tick and two places -/
abbrev St := Option (Int × Int × Int)
abbrev Cl := ByteArray × ByteArray × Int × Int × Int × Bool
def sA (s : ByteArray) : St → ByteArray | none => ⟨#[]⟩ | some _ => s
def sT : St → Int | none => 0 | some t => t.1
def sI : St → Int | none => 0 | some t => t.2.1
def sJ : St → Int | none => 0 | some t => t.2.2
def enc (s s' : ByteArray) (st : St) : Cl := (sA s st, sA s' st, sT st, sI st, sJ st, st.isSome)
def better (st : St) (x y : S26) (i j : Int) : St := if (bNear x y).2 = true then (match st with | none => some ((bNear x y).1, i, j) | some t => if (bNear x y).1 < t.1 then some ((bNear x y).1, i, j) else some t) else st
def meetRow (x : S26) (i : Int) : List S26 → Nat → St → St
  | [], _, st => st
  | y :: r, j, st => meetRow x i r (j + 1) (better st x y i j)
def meetAll (l' : List S26) : List S26 → Nat → St → St
  | [], _, st => st
  | x :: r, i, st => meetAll l' r (i + 1) (meetRow x i l' 0 st)
def meetSt (l l' : List S26) : St := meetAll l' l 0 none
def meet (s : ByteArray) (l : List S26) (s' : ByteArray) (l' : List S26) : Cl := if tubeOk s l = true ∧ tubeOk s' l' = true then enc s s' (meetSt l l') else enc s s' none
theorem bOk_of {l : List S26} (h : l.all bOk = true) {i : Nat} (hi : i < l.length) : bOk l[i] = true := List.all_eq_true.1 h _ (List.getElem_mem hi)
theorem spec_meet_row {s s' : ByteArray} {l l' : List S26} (hl : l.length ≤ 40) (hl' : l'.length ≤ 40) (ho : l.all bOk = true) (ho' : l'.all bOk = true) {i : Nat} (hi : i < l.length) {R : St → Cl}
    (hy : ∀ st : St, Ev (fun k => spec_l3Meet.l0 k st.isSome ((i + 1 : Nat) : Int) s l s' l' (sA s st) (sA s' st) (sT st) (sI st) (sJ st)) (R st)) :
    ∀ j : Nat, j ≤ l'.length → ∀ st : St, Ev (fun k => spec_l3Meet.l1 k st.isSome (i : Int) (j : Int) s l s' l' (sA s st) (sA s' st) (sT st) (sI st) (sJ st)) (R (meetRow l[i] i (l'.drop j) j st)) :=
  drop_ind l' (P := fun j r => ∀ st : St, Ev (fun k => spec_l3Meet.l1 k st.isSome (i : Int) (j : Int) s l s' l' (sA s st) (sA s' st) (sT st) (sI st) (sJ st)) (R (meetRow l[i] i r j st)))
    (fun st => by
      refine Ev.step (f := fun k => spec_l3Meet.l0 k st.isSome ((i + 1 : Nat) : Int) s l s' l' (sA s st) (sA s' st) (sT st) (sI st) (sJ st)) (fun k => ?_) (hy st)
      simp only [spec_l3Meet.l1]
      rw [if_neg (by omega), w64 hi (by omega)])
    (fun j hj ih st => by
      have hc := spec_l1c (bOk_of ho hi) (bOk_of ho' hj)
      refine Ev.step (f := fun k => (spec_l1Close.f k l[i].f0 l[i].f1 l[i].f2 l[i].f3 l[i].f4 l[i].f5 l'[j].f0 l'[j].f1 l'[j].f2 l'[j].f3 l'[j].f4 l'[j].f5).bind fun b => if b.2 = true then (if st.isSome = true then (if b.1 < sT st then spec_l3Meet.l1 k true (i : Int) ((j + 1 : Nat) : Int) s l s' l' s s' b.1 (i : Int) (j : Int) else spec_l3Meet.l1 k st.isSome (i : Int) ((j + 1 : Nat) : Int) s l s' l' (sA s st) (sA s' st) (sT st) (sI st) (sJ st)) else spec_l3Meet.l1 k true (i : Int) ((j + 1 : Nat) : Int) s l s' l' s s' b.1 (i : Int) (j : Int)) else spec_l3Meet.l1 k st.isSome (i : Int) ((j + 1 : Nat) : Int) s l s' l' (sA s st) (sA s' st) (sT st) (sI st) (sJ st)) (fun k => ?_) ?_
      · simp only [spec_l3Meet.l1]
        rw [if_pos (by omega), if_pos (by omega), if_pos (by omega), if_pos (by omega), rd26 hi, rd26 hj, w64 hj (by omega)]
      · refine Ev.bind hc ?_
        show Ev (fun k => if (bNear l[i] l'[j]).2 = true then _ else _) _
        rw [show meetRow l[i] i (l'[j] :: l'.drop (j + 1)) j st = meetRow l[i] i (l'.drop (j + 1)) (j + 1) (better st l[i] l'[j] i j) from rfl]
        by_cases hn : (bNear l[i] l'[j]).2 = true
        · refine Ev.pos hn ?_
          cases st with
          | none =>
            refine Ev.neg (by simp) (Ev.eq (ih (some ((bNear l[i] l'[j]).1, i, j))) ?_)
            simp only [better, hn, if_true]
          | some t =>
            refine Ev.pos rfl ?_
            by_cases ht : (bNear l[i] l'[j]).1 < t.1
            · refine Ev.pos ht (Ev.eq (ih (some ((bNear l[i] l'[j]).1, i, j))) ?_)
              simp only [better, hn, if_true, ht]
            · refine Ev.neg ht (Ev.eq (ih (some t)) ?_)
              simp only [better, hn, if_true, ht, if_false]
        · refine Ev.neg hn (Ev.eq (ih st) ?_)
          simp only [better, hn, Bool.false_eq_true, if_false])
theorem spec_meet_l {s s' : ByteArray} {l l' : List S26} (hl : l.length ≤ 40) (hl' : l'.length ≤ 40) (ho : l.all bOk = true) (ho' : l'.all bOk = true) :
    ∀ i : Nat, i ≤ l.length → ∀ st : St, Ev (fun k => spec_l3Meet.l0 k st.isSome (i : Int) s l s' l' (sA s st) (sA s' st) (sT st) (sI st) (sJ st)) (enc s s' (meetAll l' (l.drop i) i st)) :=
  drop_ind l (P := fun i r => ∀ st : St, Ev (fun k => spec_l3Meet.l0 k st.isSome (i : Int) s l s' l' (sA s st) (sA s' st) (sT st) (sI st) (sJ st)) (enc s s' (meetAll l' r i st)))
    (fun st => Ev.step (f := fun _ => some (enc s s' st)) (fun k => by simp only [spec_l3Meet.l0]; rw [if_neg (by omega)]; rfl) (Ev.is rfl))
    (fun i hi ih st => by
      refine Ev.step (f := fun k => spec_l3Meet.l1 k st.isSome (i : Int) ((0 : Nat) : Int) s l s' l' (sA s st) (sA s' st) (sT st) (sI st) (sJ st)) (fun k => ?_) (Ev.eq (spec_meet_row hl hl' ho ho' hi ih 0 (by omega) st) ?_)
      · simp only [spec_l3Meet.l0]
        rw [if_pos (by omega)]
        rfl
      · rfl)
theorem spec_l3meet (s s' : ByteArray) {l l' : List S26} (hl : l.length ≤ 40) (hl' : l'.length ≤ 40) (ho : l.all bOk = true) (ho' : l'.all bOk = true) : Ev (fun k => spec_l3Meet.f k s l s' l') (enc s s' (meetSt l l')) := by
  unfold spec_l3Meet.f
  exact spec_meet_l hl hl' ho ho' 0 (by omega) none
theorem spec_meet (s : ByteArray) (l : List S26) (s' : ByteArray) (l' : List S26) : Ev (fun k => spec_ProbeMeet.f k s l s' l') (meet s l s' l') := by
  unfold spec_ProbeMeet.f
  refine Ev.bind (spec_tube s l) ?_
  by_cases h : tubeOk s l = true
  · refine Ev.pos h (Ev.bind (spec_tube s' l') ?_)
    by_cases h' : tubeOk s' l' = true
    · exact Ev.pos h' (Ev.bind (spec_l3meet s s' (len_of_tube h).1 (len_of_tube h').1 (len_of_tube h).2 (len_of_tube h').2) (Ev.is (by rw [meet, if_pos ⟨h, h'⟩])))
    · exact Ev.neg h' (Ev.is (by rw [meet, if_neg (fun x => h' x.2)]; rfl))
  · exact Ev.neg h (Ev.is (by rw [meet, if_neg (fun x => h x.1)]; rfl))
theorem impl_close_ok {x y : S26} (h : bOk x = true) (h' : bOk y = true) : Ev (fun k => impl_ProbeClose.f k x.f0 x.f1 x.f2 x.f3 x.f4 x.f5 y.f0 y.f1 y.f2 y.f3 y.f4 y.f5) (bNear x y) :=
  Ev.eq (impl_close _ _ _ _ _ _ _ _ _ _ _ _) (by rw [if_pos ⟨h, h'⟩]; rfl)
theorem impl_meet_row {s s' : ByteArray} {l l' : List S26} (hl : l.length ≤ 40) (hl' : l'.length ≤ 40) (ho : l.all bOk = true) (ho' : l'.all bOk = true) {i : Nat} (hi : i < l.length) {R : St → Cl}
    (hy : ∀ st : St, Ev (fun k => impl_ProbeMeet.l0 k st.isSome l (l.length : Int) ((i + 1 : Nat) : Int) s l s' l' (sA s st) (sA s' st) (sT st) (sI st) (sJ st)) (R st)) :
    ∀ j : Nat, j ≤ l'.length → ∀ st : St, Ev (fun k => impl_ProbeMeet.l1 k st.isSome (i : Int) l (l.length : Int) (i : Int) l' (l'.length : Int) (j : Int) s l s' l' (sA s st) (sA s' st) (sT st) (sI st) (sJ st) l[i].f0 l[i].f1 l[i].f2 l[i].f3 l[i].f4 l[i].f5) (R (meetRow l[i] i (l'.drop j) j st)) :=
  drop_ind l' (P := fun j r => ∀ st : St, Ev (fun k => impl_ProbeMeet.l1 k st.isSome (i : Int) l (l.length : Int) (i : Int) l' (l'.length : Int) (j : Int) s l s' l' (sA s st) (sA s' st) (sT st) (sI st) (sJ st) l[i].f0 l[i].f1 l[i].f2 l[i].f3 l[i].f4 l[i].f5) (R (meetRow l[i] i r j st)))
    (fun st => by
      refine Ev.step (f := fun k => impl_ProbeMeet.l0 k st.isSome l (l.length : Int) ((i + 1 : Nat) : Int) s l s' l' (sA s st) (sA s' st) (sT st) (sI st) (sJ st)) (fun k => ?_) (hy st)
      simp only [impl_ProbeMeet.l1]
      rw [if_neg (by omega), w64 hi (by omega)])
    (fun j hj ih st => by
      have hc := impl_close_ok (bOk_of ho hi) (bOk_of ho' hj)
      refine Ev.step (f := fun k => (impl_ProbeClose.f k l[i].f0 l[i].f1 l[i].f2 l[i].f3 l[i].f4 l[i].f5 l'[j].f0 l'[j].f1 l'[j].f2 l'[j].f3 l'[j].f4 l'[j].f5).bind fun b => if b.2 = true then (if st.isSome = true then (if b.1 < sT st then impl_ProbeMeet.l1 k true (i : Int) l (l.length : Int) (i : Int) l' (l'.length : Int) ((j + 1 : Nat) : Int) s l s' l' s s' b.1 (i : Int) (j : Int) l[i].f0 l[i].f1 l[i].f2 l[i].f3 l[i].f4 l[i].f5 else impl_ProbeMeet.l1 k st.isSome (i : Int) l (l.length : Int) (i : Int) l' (l'.length : Int) ((j + 1 : Nat) : Int) s l s' l' (sA s st) (sA s' st) (sT st) (sI st) (sJ st) l[i].f0 l[i].f1 l[i].f2 l[i].f3 l[i].f4 l[i].f5) else impl_ProbeMeet.l1 k true (i : Int) l (l.length : Int) (i : Int) l' (l'.length : Int) ((j + 1 : Nat) : Int) s l s' l' s s' b.1 (i : Int) (j : Int) l[i].f0 l[i].f1 l[i].f2 l[i].f3 l[i].f4 l[i].f5) else impl_ProbeMeet.l1 k st.isSome (i : Int) l (l.length : Int) (i : Int) l' (l'.length : Int) ((j + 1 : Nat) : Int) s l s' l' (sA s st) (sA s' st) (sT st) (sI st) (sJ st) l[i].f0 l[i].f1 l[i].f2 l[i].f3 l[i].f4 l[i].f5) (fun k => ?_) ?_
      · simp only [impl_ProbeMeet.l1]
        rw [if_pos (by omega), if_pos (by omega), if_pos (by omega), rd26 hj, w64 hj (by omega)]
      · refine Ev.bind hc ?_
        rw [show meetRow l[i] i (l'[j] :: l'.drop (j + 1)) j st = meetRow l[i] i (l'.drop (j + 1)) (j + 1) (better st l[i] l'[j] i j) from rfl]
        by_cases hn : (bNear l[i] l'[j]).2 = true
        · refine Ev.pos hn ?_
          cases st with
          | none =>
            refine Ev.neg (by simp) (Ev.eq (ih (some ((bNear l[i] l'[j]).1, i, j))) ?_)
            simp only [better, hn, if_true]
          | some t =>
            refine Ev.pos rfl ?_
            by_cases ht : (bNear l[i] l'[j]).1 < t.1
            · refine Ev.pos ht (Ev.eq (ih (some ((bNear l[i] l'[j]).1, i, j))) ?_)
              simp only [better, hn, if_true, ht]
            · refine Ev.neg ht (Ev.eq (ih (some t)) ?_)
              simp only [better, hn, if_true, ht, if_false]
        · refine Ev.neg hn (Ev.eq (ih st) ?_)
          simp only [better, hn, Bool.false_eq_true, if_false])
theorem impl_meet_l {s s' : ByteArray} {l l' : List S26} (hl : l.length ≤ 40) (hl' : l'.length ≤ 40) (ho : l.all bOk = true) (ho' : l'.all bOk = true) :
    ∀ i : Nat, i ≤ l.length → ∀ st : St, Ev (fun k => impl_ProbeMeet.l0 k st.isSome l (l.length : Int) (i : Int) s l s' l' (sA s st) (sA s' st) (sT st) (sI st) (sJ st)) (enc s s' (meetAll l' (l.drop i) i st)) :=
  drop_ind l (P := fun i r => ∀ st : St, Ev (fun k => impl_ProbeMeet.l0 k st.isSome l (l.length : Int) (i : Int) s l s' l' (sA s st) (sA s' st) (sT st) (sI st) (sJ st)) (enc s s' (meetAll l' r i st)))
    (fun st => Ev.step (f := fun _ => some (enc s s' st)) (fun k => by simp only [impl_ProbeMeet.l0]; rw [if_neg (by omega)]; rfl) (Ev.is rfl))
    (fun i hi ih st => by
      refine Ev.step (f := fun k => impl_ProbeMeet.l1 k st.isSome (i : Int) l (l.length : Int) (i : Int) l' (l'.length : Int) ((0 : Nat) : Int) s l s' l' (sA s st) (sA s' st) (sT st) (sI st) (sJ st) l[i].f0 l[i].f1 l[i].f2 l[i].f3 l[i].f4 l[i].f5) (fun k => ?_) (Ev.eq (impl_meet_row hl hl' ho ho' hi ih 0 (by omega) st) ?_)
      · simp only [impl_ProbeMeet.l0]
        rw [if_pos (by omega), if_pos (by omega), if_pos (by omega), rd26 hi]
        rfl
      · rfl)
theorem impl_meet (s : ByteArray) (l : List S26) (s' : ByteArray) (l' : List S26) : Ev (fun k => impl_ProbeMeet.f k s l s' l') (meet s l s' l') := by
  unfold impl_ProbeMeet.f
  refine Ev.bind (impl_tube s l) ?_
  by_cases h : tubeOk s l = true
  · refine Ev.pos h (Ev.bind (impl_tube s' l') ?_)
    by_cases h' : tubeOk s' l' = true
    · refine Ev.step (f := fun k => impl_ProbeMeet.l0 k false l (l.length : Int) ((0 : Nat) : Int) s l s' l' (⟨#[]⟩ : ByteArray) (⟨#[]⟩ : ByteArray) 0 0 0) (fun k => ?_) (Ev.eq (impl_meet_l (len_of_tube h).1 (len_of_tube h').1 (len_of_tube h).2 (len_of_tube h').2 0 (by omega) none) (by rw [meet, if_pos ⟨h, h'⟩]; rfl))
      simp only [impl_ProbeMeet.j0]
      rw [if_neg (by simp [h'])]
      rfl
    · refine Ev.step (f := fun _ => some (enc s s' none)) (fun k => ?_) (Ev.is (by rw [meet, if_neg (fun x => h' x.2)]))
      simp only [impl_ProbeMeet.j0]
      rw [if_pos (by simpa using h')]
      rfl
  · refine Ev.neg h (Ev.step (f := fun _ => some (enc s s' none)) (fun k => ?_) (Ev.is (by rw [meet, if_neg (fun x => h x.1)])))
    simp only [impl_ProbeMeet.j0]
    rfl
end Go.Proofs.Ytfoapgcnjnogiaa.Q
