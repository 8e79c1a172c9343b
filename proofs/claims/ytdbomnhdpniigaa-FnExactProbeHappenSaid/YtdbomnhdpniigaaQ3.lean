/- What ProbeMeet computes, program and reference. No condition beside the sizes that are typed. -/
import Derived.Test.YtdbomnhdpniigaaQ1
namespace Go.Proofs.Ytdbomnhdpniigaa.Q
open Go.RowKit Go.Proofs.Ytdbomnhdpniigaa.PA Go.Proofs.YtdbomnhdpniigaaW.PrintWords Go.Proofs.YtdbomnhdpniigaaW.PrintLast Go.Proofs.YtdbomnhdpniigaaW.PrintMore

theorem len_of_tube {s : ByteArray} {l : List S95} (h : tubeOk s l = true) : l.length ≤ 40 ∧ l.all bOk = true := by
 simp only [tubeOk, Bool.and_eq_true, decide_eq_true_eq] at h
 exact ⟨h.1.2, h.2⟩
theorem size_of_tube {s : ByteArray} {l : List S95} (h : tubeOk s l = true) : 1 ≤ s.size ∧ s.size ≤ 8 := by
 simp only [tubeOk, nameOk, Bool.and_eq_true, decide_eq_true_eq] at h
 exact h.1.1.1
/-! ### Meet: the best so far is a tick and two places -/
abbrev St := Option (Int × Int × Int)
abbrev Cl := ByteArray × ByteArray × Int × Int × Int × Bool
def sA (s : ByteArray) : St → ByteArray | none => ⟨#[]⟩ | some _ => s
def sT : St → Int | none => 0 | some t => t.1
def sI : St → Int | none => 0 | some t => t.2.1
def sJ : St → Int | none => 0 | some t => t.2.2
def enc (s s' : ByteArray) (st : St) : Cl := (sA s st, sA s' st, sT st, sI st, sJ st, st.isSome)
def better (st : St) (x y : S95) (i j : Int) : St := if (bNear x y).2 = true then (match st with | none => some ((bNear x y).1, i, j) | some t => if (bNear x y).1 < t.1 then some ((bNear x y).1, i, j) else some t) else st
def meetRow (x : S95) (i : Int) : List S95 → Nat → St → St
 | [], _, st => st
 | y :: r, j, st => meetRow x i r (j + 1) (better st x y i j)
def meetAll (l' : List S95) : List S95 → Nat → St → St
 | [], _, st => st
 | x :: r, i, st => meetAll l' r (i + 1) (meetRow x i l' 0 st)
def meetSt (l l' : List S95) : St := meetAll l' l 0 none
def meet (s : ByteArray) (l : List S95) (s' : ByteArray) (l' : List S95) : Cl := if tubeOk s l = true ∧ tubeOk s' l' = true then enc s s' (meetSt l l') else enc s s' none
theorem bOk_of {l : List S95} (h : l.all bOk = true) {i : Nat} (hi : i < l.length) : bOk l[i] = true := List.all_eq_true.1 h _ (List.getElem_mem hi)
theorem spec_meet_row {s s' : ByteArray} {l l' : List S95} (hl : l.length ≤ 40) (hl' : l'.length ≤ 40) (ho : l.all bOk = true) (ho' : l'.all bOk = true) {i : Nat} (hi : i < l.length) {R : St → Cl}
  (hy : ∀ st : St, Ev (fun k => spec_l3Meet.l0 k st.isSome ((i + 1 : Nat) : Int) s l s' l' (sA s st) (sA s' st) (sT st) (sI st) (sJ st)) (R st)) :
  ∀ j : Nat, j ≤ l'.length → ∀ st : St, Ev (fun k => spec_l3Meet.l1 k st.isSome (i : Int) (j : Int) s l s' l' (sA s st) (sA s' st) (sT st) (sI st) (sJ st)) (R (meetRow l[i] i (l'.drop j) j st)) :=
 drop_ind l' (P := fun j r => ∀ st : St, Ev (fun k => spec_l3Meet.l1 k st.isSome (i : Int) (j : Int) s l s' l' (sA s st) (sA s' st) (sT st) (sI st) (sJ st)) (R (meetRow l[i] i r j st)))
  (fun st => by
   refine Ev.step (f := fun k => spec_l3Meet.l0 k st.isSome ((i + 1 : Nat) : Int) s l s' l' (sA s st) (sA s' st) (sT st) (sI st) (sJ st)) (fun k => ?_) (hy st)
   simp only [spec_l3Meet.l1]
   rw [if_neg (by omega), w64 hi (by omega)])
  (fun j hj ih st => by
   have hc := spec_l1c (bOk_of ho hi) (bOk_of ho' hj)
   refine Ev.step (f := fun k => (spec_l1Close.f k l[i].f0 l[i].f1 l[i].f2 l[i].f3 l[i].f4 l[i].f5 l'[j].f0 l'[j].f1 l'[j].f2 l'[j].f3 l'[j].f4 l'[j].f5).bind fun b => if b.2 = true then (if st.isSome = true then (if b.1 < sT st then spec_l3Meet.l1 k true (i : Int) ((j + 1 : Nat) : Int) s l s' l' s s' b.1 (i : Int) (j : Int) else spec_l3Meet.l1 k st.isSome (i : Int) ((j + 1 : Nat) : Int) s l s' l' (sA s st) (sA s' st) (sT st) (sI st) (sJ st)) else spec_l3Meet.l1 k true (i : Int) ((j + 1 : Nat) : Int) s l s' l' s s' b.1 (i : Int) (j : Int)) else spec_l3Meet.l1 k st.isSome (i : Int) ((j + 1 : Nat) : Int) s l s' l' (sA s st) (sA s' st) (sT st) (sI st) (sJ st)) (fun k => ?_) ?_
   ·simp only [spec_l3Meet.l1]
    rw [if_pos (by omega), if_pos (by omega), if_pos (by omega), if_pos (by omega), rd26 hi, rd26 hj, w64 hj (by omega)]
   ·refine Ev.bind hc ?_
    show Ev (fun k => if (bNear l[i] l'[j]).2 = true then _ else _) _
    rw [show meetRow l[i] i (l'[j] :: l'.drop (j + 1)) j st = meetRow l[i] i (l'.drop (j + 1)) (j + 1) (better st l[i] l'[j] i j) from rfl]
    by_cases hn : (bNear l[i] l'[j]).2 = true
    ·refine Ev.pos hn ?_
     cases st with
     | none =>
      refine Ev.neg (by simp) (Ev.eq (ih (some ((bNear l[i] l'[j]).1, i, j))) ?_)
      simp only [better, hn, if_true]
     | some t =>
      refine Ev.pos rfl ?_
      by_cases ht : (bNear l[i] l'[j]).1 < t.1
      ·refine Ev.pos ht (Ev.eq (ih (some ((bNear l[i] l'[j]).1, i, j))) ?_)
       simp only [better, hn, if_true, ht]
      ·refine Ev.neg ht (Ev.eq (ih (some t)) ?_)
       simp only [better, hn, if_true, ht, if_false]
    ·refine Ev.neg hn (Ev.eq (ih st) ?_)
     simp only [better, hn, Bool.false_eq_true, if_false])
theorem spec_meet_l {s s' : ByteArray} {l l' : List S95} (hl : l.length ≤ 40) (hl' : l'.length ≤ 40) (ho : l.all bOk = true) (ho' : l'.all bOk = true) :
  ∀ i : Nat, i ≤ l.length → ∀ st : St, Ev (fun k => spec_l3Meet.l0 k st.isSome (i : Int) s l s' l' (sA s st) (sA s' st) (sT st) (sI st) (sJ st)) (enc s s' (meetAll l' (l.drop i) i st)) :=
 drop_ind l (P := fun i r => ∀ st : St, Ev (fun k => spec_l3Meet.l0 k st.isSome (i : Int) s l s' l' (sA s st) (sA s' st) (sT st) (sI st) (sJ st)) (enc s s' (meetAll l' r i st)))
  (fun st => Ev.step (f := fun _ => some (enc s s' st)) (fun k => by simp only [spec_l3Meet.l0]; rw [if_neg (by omega)]; rfl) (Ev.is rfl))
  (fun i hi ih st => by
   refine Ev.step (f := fun k => spec_l3Meet.l1 k st.isSome (i : Int) ((0 : Nat) : Int) s l s' l' (sA s st) (sA s' st) (sT st) (sI st) (sJ st)) (fun k => ?_) (Ev.eq (spec_meet_row hl hl' ho ho' hi ih 0 (by omega) st) ?_)
   ·simp only [spec_l3Meet.l0]
    rw [if_pos (by omega)]
    rfl
   ·rfl)
theorem spec_l3meet (s s' : ByteArray) {l l' : List S95} (hl : l.length ≤ 40) (hl' : l'.length ≤ 40) (ho : l.all bOk = true) (ho' : l'.all bOk = true) : Ev (fun k => spec_l3Meet.f k s l s' l') (enc s s' (meetSt l l')) := by
 unfold spec_l3Meet.f
 exact spec_meet_l hl hl' ho ho' 0 (by omega) none
theorem impl_close_ok {x y : S95} (h : bOk x = true) (h' : bOk y = true) : Ev (fun k => impl_ProbeClose.f k x.f0 x.f1 x.f2 x.f3 x.f4 x.f5 y.f0 y.f1 y.f2 y.f3 y.f4 y.f5) (bNear x y) :=
 Ev.eq (impl_close _ _ _ _ _ _ _ _ _ _ _ _) (by rw [if_pos ⟨h, h'⟩]; rfl)
theorem impl_meet_row {s s' : ByteArray} {l l' : List S95} (hl : l.length ≤ 40) (hl' : l'.length ≤ 40) (ho : l.all bOk = true) (ho' : l'.all bOk = true) {i : Nat} (hi : i < l.length) {R : St → Cl}
  (hy : ∀ st : St, Ev (fun k => impl_ProbeMeet.l0 k st.isSome l (l.length : Int) ((i + 1 : Nat) : Int) s l s' l' (sA s st) (sA s' st) (sT st) (sI st) (sJ st)) (R st)) :
  ∀ j : Nat, j ≤ l'.length → ∀ st : St, Ev (fun k => impl_ProbeMeet.l1 k st.isSome (i : Int) l (l.length : Int) (i : Int) l' (l'.length : Int) (j : Int) s l s' l' (sA s st) (sA s' st) (sT st) (sI st) (sJ st) l[i].f0 l[i].f1 l[i].f2 l[i].f3 l[i].f4 l[i].f5) (R (meetRow l[i] i (l'.drop j) j st)) :=
 drop_ind l' (P := fun j r => ∀ st : St, Ev (fun k => impl_ProbeMeet.l1 k st.isSome (i : Int) l (l.length : Int) (i : Int) l' (l'.length : Int) (j : Int) s l s' l' (sA s st) (sA s' st) (sT st) (sI st) (sJ st) l[i].f0 l[i].f1 l[i].f2 l[i].f3 l[i].f4 l[i].f5) (R (meetRow l[i] i r j st)))
  (fun st => by
   refine Ev.step (f := fun k => impl_ProbeMeet.l0 k st.isSome l (l.length : Int) ((i + 1 : Nat) : Int) s l s' l' (sA s st) (sA s' st) (sT st) (sI st) (sJ st)) (fun k => ?_) (hy st)
   simp only [impl_ProbeMeet.l1]
   rw [if_neg (by omega), w64 hi (by omega)])
  (fun j hj ih st => by
   have hc := impl_close_ok (bOk_of ho hi) (bOk_of ho' hj)
   refine Ev.step (f := fun k => (impl_ProbeClose.f k l[i].f0 l[i].f1 l[i].f2 l[i].f3 l[i].f4 l[i].f5 l'[j].f0 l'[j].f1 l'[j].f2 l'[j].f3 l'[j].f4 l'[j].f5).bind fun b => if b.2 = true then (if st.isSome = true then (if b.1 < sT st then impl_ProbeMeet.l1 k true (i : Int) l (l.length : Int) (i : Int) l' (l'.length : Int) ((j + 1 : Nat) : Int) s l s' l' s s' b.1 (i : Int) (j : Int) l[i].f0 l[i].f1 l[i].f2 l[i].f3 l[i].f4 l[i].f5 else impl_ProbeMeet.l1 k st.isSome (i : Int) l (l.length : Int) (i : Int) l' (l'.length : Int) ((j + 1 : Nat) : Int) s l s' l' (sA s st) (sA s' st) (sT st) (sI st) (sJ st) l[i].f0 l[i].f1 l[i].f2 l[i].f3 l[i].f4 l[i].f5) else impl_ProbeMeet.l1 k true (i : Int) l (l.length : Int) (i : Int) l' (l'.length : Int) ((j + 1 : Nat) : Int) s l s' l' s s' b.1 (i : Int) (j : Int) l[i].f0 l[i].f1 l[i].f2 l[i].f3 l[i].f4 l[i].f5) else impl_ProbeMeet.l1 k st.isSome (i : Int) l (l.length : Int) (i : Int) l' (l'.length : Int) ((j + 1 : Nat) : Int) s l s' l' (sA s st) (sA s' st) (sT st) (sI st) (sJ st) l[i].f0 l[i].f1 l[i].f2 l[i].f3 l[i].f4 l[i].f5) (fun k => ?_) ?_
   ·simp only [impl_ProbeMeet.l1]
    rw [if_pos (by omega), if_pos (by omega), if_pos (by omega), rd26 hj, w64 hj (by omega)]
   ·refine Ev.bind hc ?_
    rw [show meetRow l[i] i (l'[j] :: l'.drop (j + 1)) j st = meetRow l[i] i (l'.drop (j + 1)) (j + 1) (better st l[i] l'[j] i j) from rfl]
    by_cases hn : (bNear l[i] l'[j]).2 = true
    ·refine Ev.pos hn ?_
     cases st with
     | none =>
      refine Ev.neg (by simp) (Ev.eq (ih (some ((bNear l[i] l'[j]).1, i, j))) ?_)
      simp only [better, hn, if_true]
     | some t =>
      refine Ev.pos rfl ?_
      by_cases ht : (bNear l[i] l'[j]).1 < t.1
      ·refine Ev.pos ht (Ev.eq (ih (some ((bNear l[i] l'[j]).1, i, j))) ?_)
       simp only [better, hn, if_true, ht]
      ·refine Ev.neg ht (Ev.eq (ih (some t)) ?_)
       simp only [better, hn, if_true, ht, if_false]
    ·refine Ev.neg hn (Ev.eq (ih st) ?_)
     simp only [better, hn, Bool.false_eq_true, if_false])
theorem impl_meet_l {s s' : ByteArray} {l l' : List S95} (hl : l.length ≤ 40) (hl' : l'.length ≤ 40) (ho : l.all bOk = true) (ho' : l'.all bOk = true) :
  ∀ i : Nat, i ≤ l.length → ∀ st : St, Ev (fun k => impl_ProbeMeet.l0 k st.isSome l (l.length : Int) (i : Int) s l s' l' (sA s st) (sA s' st) (sT st) (sI st) (sJ st)) (enc s s' (meetAll l' (l.drop i) i st)) :=
 drop_ind l (P := fun i r => ∀ st : St, Ev (fun k => impl_ProbeMeet.l0 k st.isSome l (l.length : Int) (i : Int) s l s' l' (sA s st) (sA s' st) (sT st) (sI st) (sJ st)) (enc s s' (meetAll l' r i st)))
  (fun st => Ev.step (f := fun _ => some (enc s s' st)) (fun k => by simp only [impl_ProbeMeet.l0]; rw [if_neg (by omega)]; rfl) (Ev.is rfl))
  (fun i hi ih st => by
   refine Ev.step (f := fun k => impl_ProbeMeet.l1 k st.isSome (i : Int) l (l.length : Int) (i : Int) l' (l'.length : Int) ((0 : Nat) : Int) s l s' l' (sA s st) (sA s' st) (sT st) (sI st) (sJ st) l[i].f0 l[i].f1 l[i].f2 l[i].f3 l[i].f4 l[i].f5) (fun k => ?_) (Ev.eq (impl_meet_row hl hl' ho ho' hi ih 0 (by omega) st) ?_)
   ·simp only [impl_ProbeMeet.l0]
    rw [if_pos (by omega), if_pos (by omega), if_pos (by omega), rd26 hi]
    rfl
   ·rfl)
theorem impl_meet (s : ByteArray) (l : List S95) (s' : ByteArray) (l' : List S95) : Ev (fun k => impl_ProbeMeet.f k s l s' l') (meet s l s' l') := by
 unfold impl_ProbeMeet.f
 refine Ev.bind (impl_tube s l) ?_
 by_cases h : tubeOk s l = true
 ·refine Ev.pos h (Ev.bind (impl_tube s' l') ?_)
  by_cases h' : tubeOk s' l' = true
  ·refine Ev.step (f := fun k => impl_ProbeMeet.l0 k false l (l.length : Int) ((0 : Nat) : Int) s l s' l' (⟨#[]⟩ : ByteArray) (⟨#[]⟩ : ByteArray) 0 0 0) (fun k => ?_) (Ev.eq (impl_meet_l (len_of_tube h).1 (len_of_tube h').1 (len_of_tube h).2 (len_of_tube h').2 0 (by omega) none) (by rw [meet, if_pos ⟨h, h'⟩]; rfl))
   simp only [impl_ProbeMeet.j0]
   rw [if_neg (by simp [h'])]
   rfl
  ·refine Ev.step (f := fun _ => some (enc s s' none)) (fun k => ?_) (Ev.is (by rw [meet, if_neg (fun x => h' x.2)]))
   simp only [impl_ProbeMeet.j0]
   rw [if_pos (by simpa using h')]
   rfl
 ·refine Ev.neg h (Ev.step (f := fun _ => some (enc s s' none)) (fun k => ?_) (Ev.is (by rw [meet, if_neg (fun x => h x.1)])))
  simp only [impl_ProbeMeet.j0]
  rfl
end Go.Proofs.Ytdbomnhdpniigaa.Q
