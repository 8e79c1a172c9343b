/- FnSmaller: one within another, and what follows for a free sky. No condition. -/
import Derived.Test.YtfoapgcnjnogiaaQ8
import Derived.Test.YtfoapgcnjnogiaaPureMeet
namespace Go.Proofs.Ytfoapgcnjnogiaa.Pure
open Go.RowKit Go.Proofs.Ytfoapgcnjnogiaa.PA Go.Proofs.Ytfoapgcnjnogiaa.Q Go.Proofs.YtfoapgcnjnogiaaW.PrintWords Go.Proofs.YtfoapgcnjnogiaaW.PrintLast
theorem cover_refl (a : S26) : Q.cover a a = true := by simp [Q.cover]
theorem cover_trans {a b c : S26} (h : Q.cover b a = true) (h' : Q.cover c b = true) : Q.cover c a = true := by
  simp only [Q.cover, decide_eq_true_eq] at h h' ⊢
  omega
theorem cover_near {a b y : S26} (h : Q.cover b a = true) (hn : (bNear a y).2 = true) : (bNear b y).2 = true := by
  simp only [Q.cover, decide_eq_true_eq] at h
  revert hn
  simp only [bNear, near]
  grind
theorem smaller_iff {s s' : ByteArray} {l l' : List S26} : smaller s l s' l' = true ↔ tubeOk s l = true ∧ tubeOk s' l' = true ∧ ∀ x ∈ l, ∃ y ∈ l', Q.cover y x = true := by
  simp only [smaller, Bool.and_eq_true, List.all_eq_true, List.any_eq_true]
  exact ⟨fun h => ⟨h.1.1, h.1.2, h.2⟩, fun h => ⟨⟨h.1, h.2.1⟩, h.2.2⟩⟩
theorem smaller_self (s : ByteArray) (l : List S26) : smaller s l s l = tubeOk s l := by
  rw [Bool.eq_iff_iff, smaller_iff]
  exact ⟨fun h => h.1, fun h => ⟨h, h, fun x hx => ⟨x, hx, cover_refl x⟩⟩⟩
theorem smaller_trans {s s' s'' : ByteArray} {l l' l'' : List S26} (h : smaller s l s' l' = true) (h' : smaller s' l' s'' l'' = true) : smaller s l s'' l'' = true := by
  rw [smaller_iff] at h h' ⊢
  refine ⟨h.1, h'.2.1, fun x hx => ?_⟩
  obtain ⟨y, hy, hc⟩ := h.2.2 x hx
  obtain ⟨z, hz, hc'⟩ := h'.2.2 y hy
  exact ⟨z, hz, cover_trans hc hc'⟩
theorem meet_none {l l' : List S26} : meetSt l l' = none ↔ ∀ x ∈ l, ∀ y ∈ l', ¬ (bNear x y).2 = true := by
  have h := best l l'
  cases e : meetSt l l' with
  | none =>
    rw [e] at h
    exact ⟨fun _ x hx y hy => h x y ⟨hx, hy⟩, fun _ => rfl⟩
  | some t =>
    rw [e] at h
    obtain ⟨⟨i, j, _, _, hi, hj, hn⟩, _⟩ := h
    exact ⟨fun h' => (nomatch h'), fun h' => absurd (by rw [hn]) (h' l[i] (List.getElem_mem hi) l'[j] (List.getElem_mem hj))⟩
theorem with_nil {s : ByteArray} {l : List S26} : ∀ {L : List S39}, (withL s l L).length = 0 ↔ ∀ t ∈ L, ¬ ((meetSt l t.f1).isSome = true ∧ t.f0.toList ≠ s.toList)
  | [] => by simp [withL]
  | t :: r => by
    rw [withL]
    by_cases h : (meetSt l t.f1).isSome = true ∧ t.f0.toList ≠ s.toList
    · rw [if_pos h]
      constructor
      · intro hh; simp at hh
      · intro hh; exact absurd h (hh t (by simp))
    · rw [if_neg h, with_nil]
      constructor
      · intro hh x hx
        rcases List.mem_cons.1 hx with rfl | hx
        · exact h
        · exact hh x hx
      · intro hh x hx
        exact hh x (by simp [hx])
theorem free_of {L : List S39} {s s' : ByteArray} {l l' : List S26} (h : smaller s l s' l' = true) (hs : s.toList = s'.toList) (hf : freeA L s' l' = true) : freeA L s l = true := by
  rw [smaller_iff] at h
  simp only [freeA, Bool.and_eq_true, beq_iff_eq] at hf ⊢
  refine ⟨⟨hf.1.1, h.1⟩, ?_⟩
  have hw := with_nil.1 hf.2
  rw [with_nil]
  intro t ht hh
  refine hw t ht ⟨?_, hs ▸ hh.2⟩
  cases e : meetSt l' t.f1 with
  | some _ => rfl
  | none =>
    rw [meet_none] at e
    have : meetSt l t.f1 = none := by
      rw [meet_none]
      intro x hx y hy hn
      obtain ⟨z, hz, hc⟩ := h.2.2 x hx
      exact e z hz y hy (cover_near hc hn)
    rw [this] at hh
    cases hh.1
theorem small_j2 {m : List Int} (v : ∀ x ∈ m, 0 ≤ x ∧ x ≤ 255) {s s' : ByteArray} {l l' : List S26} (h : smaller s l s' l' = true) : Ev (fun k => laws_FnSmaller.j2 k m false s l s' l') true := by
  obtain ⟨p, b, p', b', e⟩ := drawSmaller_ev m v
  refine Ev.step (fun k => laws_FnSmaller.j2.eq_2 ..) (Ev.neg (by simp) (Ev.bind e (Ev.bind (impl_smaller _ _ _ _) ?_)))
  by_cases h1 : smaller s' l' p b = true
  · refine Ev.pos h1 (Ev.bind (impl_smaller _ _ _ _) ?_)
    by_cases h2 : smaller p b p' b' = true
    · exact Ev.pos h2 (Ev.bind (impl_smaller _ _ _ _) (Ev.eq (Ev.now _) (smaller_trans (smaller_trans h h1) h2)))
    · exact Ev.neg h2 (Ev.now true)
  · exact Ev.neg h1 (Ev.now true)
theorem small_j1' {m : List Int} (v : ∀ x ∈ m, 0 ≤ x ∧ x ≤ 255) (s s' : ByteArray) (l l' : List S26) : Ev (fun k => laws_FnSmaller.j1 k m false s l s' l') true := by
  obtain ⟨L, p, b, e⟩ := drawWith_ev m v
  refine Ev.step (fun k => laws_FnSmaller.j1.eq_2 ..) (Ev.neg (by simp) (Ev.bind e (Ev.bind (spec_smaller _ _ _ _) ?_)))
  by_cases h : smaller s l s' l' = true
  · refine Ev.pos h (Ev.bind (impl_free _ _ _) ?_)
    by_cases hf : freeA L s' l' = true
    · refine Ev.pos hf ?_
      by_cases hs : s.toList = s'.toList
      · refine Ev.pos hs (Ev.bind (impl_free _ _ _) ?_)
        rw [free_of h hs hf]
        exact small_j2 v h
      · exact Ev.neg hs (small_j2 v h)
    · exact Ev.neg hf (small_j2 v h)
  · exact Ev.neg h (Ev.now true)
theorem small_j0 (l m : List Int) (w : ∀ x ∈ l, 0 ≤ x ∧ x ≤ 255) (v : ∀ x ∈ m, 0 ≤ x ∧ x ≤ 255) : Ev (fun k => laws_FnSmaller.j0 k l m false) true := by
  obtain ⟨s, a, s', a', e⟩ := drawSmaller_ev l w
  refine Ev.step (fun k => laws_FnSmaller.j0.eq_2 ..) (Ev.neg (by simp) (Ev.bind e (Ev.bind (impl_smaller _ _ _ _) (Ev.bind (spec_smaller _ _ _ _) (Ev.neg (by simp) (Ev.bind (impl_smaller _ _ _ _) (Ev.bind (spec_tube s a) ?_)))))))
  rw [show (smaller (s, a, s', a').1 (s, a, s', a').2.1 (s, a, s', a').1 (s, a, s', a').2.1 != tubeOk s a) = false by
    show (smaller s a s a != tubeOk s a) = false
    rw [smaller_self]; simp]
  exact small_j1' v s s' a a'
theorem FnSmaller (l m : List Int) (w : g_bytes l) (v : g_bytes m) : ∃ k, laws_FnSmaller.f k l m = some true := by
  refine Ev.rounds (g := fun k => laws_FnSmaller.f k l m) ?_
  unfold laws_FnSmaller.f
  have no : Ev (fun k => laws_FnSmaller.j0 k l m true) true := Ev.step (fun k => laws_FnSmaller.j0.eq_2 ..) (Ev.pos rfl (Ev.now true))
  by_cases h : (l.length : Int) > 1048576
  · exact Ev.pos h no
  · refine Ev.neg h ?_
    by_cases h' : (m.length : Int) > 1048576
    · rw [decide_eq_true h']; exact no
    · rw [decide_eq_false h']; exact small_j0 l m (bytes_of w) (bytes_of v)
end Go.Proofs.Ytfoapgcnjnogiaa.Pure
