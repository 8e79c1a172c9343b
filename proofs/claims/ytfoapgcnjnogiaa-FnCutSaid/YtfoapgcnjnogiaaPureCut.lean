/- FnCut: what the cut of a drawn tube owes. No condition. -/
import Derived.Test.YtfoapgcnjnogiaaQ4
import Derived.Test.YtfoapgcnjnogiaaPureMeet
namespace Go.Proofs.Ytfoapgcnjnogiaa.Pure
open Go.RowKit Go.Proofs.Ytfoapgcnjnogiaa.PA Go.Proofs.Ytfoapgcnjnogiaa.Q Go.Proofs.YtfoapgcnjnogiaaW.PrintWords Go.Proofs.YtfoapgcnjnogiaaW.PrintLast
theorem wtube_l (s s' : ByteArray) (l : List S26) (hl : l.length ≤ 100) : ∀ i : Nat, i ≤ l.length → Ev (fun k => laws_wTube.l0 k (i : Int) s l s' l) true :=
  drop_ind l (P := fun i _ => Ev (fun k => laws_wTube.l0 k (i : Int) s l s' l) true)
    (Ev.step (fun k => laws_wTube.l0.eq_2 ..) (Ev.neg (by omega) (Ev.now true)))
    (fun i hi ih => by
      refine Ev.step (fun k => laws_wTube.l0.eq_2 ..) (Ev.pos (by omega) (Ev.pos (by omega) (Ev.pos (by omega) (Ev.neg (by simp) ?_))))
      rw [w64 hi (by omega)]
      exact ih)
theorem wtube (s : ByteArray) (l : List S26) (hl : l.length ≤ 100) : Ev (fun k => laws_wTube.f k s l s l) true := by
  unfold laws_wTube.f
  refine Ev.pos rfl (Ev.step (fun k => laws_wTube.j0.eq_2 ..) (Ev.neg (by simp) ?_))
  exact wtube_l s s l hl 0 (by omega)
theorem wtube_of {s s' : ByteArray} {l l' : List S26} (e : (s, l) = (s', l')) (hl : l.length ≤ 100) : Ev (fun k => laws_wTube.f k s l s' l') true := by
  obtain ⟨rfl, rfl⟩ := Prod.mk.inj e
  exact wtube s l hl
theorem cutL_mem {f : Int} {l : List S26} {x : S26} : x ∈ cutL f l ↔ ∃ b ∈ l, f ≤ b.f5 ∧ x = cutB f b := by
  simp only [cutL, List.mem_map, List.mem_filter, decide_eq_true_eq]
  constructor
  · rintro ⟨b, ⟨hb, hf⟩, rfl⟩
    exact ⟨b, hb, hf, rfl⟩
  · rintro ⟨b, hb, hf, rfl⟩
    exact ⟨b, ⟨hb, hf⟩, rfl⟩
theorem cutB_ok {f : Int} {b : S26} (h : bOk b = true) (hf : f ≤ b.f5) : bOk (cutB f b) = true := by
  have := bOk_bounds h
  simp only [bOk, boxOk, cutB, mx, decide_eq_true_eq]
  grind
theorem cutL_ok {f : Int} {l : List S26} (h : l.all bOk = true) : (cutL f l).all bOk = true := by
  rw [List.all_eq_true] at h ⊢
  intro x hx
  obtain ⟨b, hb, hf, rfl⟩ := cutL_mem.1 hx
  exact cutB_ok (h b hb) hf
theorem cut_ok {s : ByteArray} {l : List S26} (f : Int) (h : tubeOk s l = true) : tubeOk s (cutL f l) = true := by
  have hl := cutL_len f l
  simp only [tubeOk, Bool.and_eq_true, decide_eq_true_eq] at h ⊢
  exact ⟨⟨h.1.1, by omega⟩, cutL_ok h.2⟩
theorem cut_small {s : ByteArray} {l : List S26} (f : Int) (h : tubeOk s l = true) : smaller s (cutL f l) s l = true := by
  simp only [smaller, h, cut_ok f h, Bool.true_and, List.all_eq_true, List.any_eq_true]
  intro x hx
  obtain ⟨b, hb, hf, rfl⟩ := cutL_mem.1 hx
  refine ⟨b, hb, ?_⟩
  simp only [Q.cover, cutB, mx, decide_eq_true_eq]
  grind
theorem cutL_cutL {f g : Int} (h : f ≤ g) (l : List S26) : cutL g (cutL f l) = cutL g l := by
  induction l with
  | nil => rfl
  | cons b r ih =>
    by_cases h1 : f ≤ b.f5
    · rw [cutL_yes r h1]
      by_cases h2 : g ≤ b.f5
      · rw [cutL_yes _ (show g ≤ (cutB f b).f5 from h2), cutL_yes r h2, ih]
        congr 1
        simp only [cutB, mx]
        grind
      · rw [cutL_no _ (show ¬ g ≤ (cutB f b).f5 from h2), cutL_no r h2, ih]
    · rw [cutL_no r h1, ih, cutL_no r (by omega)]
theorem near_cut {f t : Int} (h : f ≤ t) (l l' : List S26) : nearL (cutL f l) l' t = nearL l l' t := by
  rw [Bool.eq_iff_iff]
  simp only [nearL, List.any_eq_true]
  constructor
  · rintro ⟨x, hx, y, hy, hn⟩
    obtain ⟨b, hb, hf, rfl⟩ := cutL_mem.1 hx
    refine ⟨b, hb, y, hy, ?_⟩
    revert hn
    simp only [nearT, cutB, mx, decide_eq_true_eq]
    grind
  · rintro ⟨x, hx, y, hy, hn⟩
    have hf : f ≤ x.f5 := by
      simp only [nearT, decide_eq_true_eq] at hn
      omega
    refine ⟨cutB f x, cutL_mem.2 ⟨x, hx, hf, rfl⟩, y, hy, ?_⟩
    revert hn
    simp only [nearT, cutB, mx, decide_eq_true_eq]
    grind
theorem near_cut_no {f t : Int} (h : t < f) (l l' : List S26) : nearL (cutL f l) l' t = false := by
  rw [Bool.eq_false_iff]
  intro hn
  simp only [nearL, List.any_eq_true] at hn
  obtain ⟨x, hx, y, hy, hn⟩ := hn
  obtain ⟨b, hb, hf, rfl⟩ := cutL_mem.1 hx
  revert hn
  simp only [nearT, cutB, mx, decide_eq_true_eq]
  grind
theorem cut_l0 {s s2 : ByteArray} {a a2 : List S26} {f : Int} (h : tubeOk s a = true) (h2 : a2.length ≤ 41) (d : Nat) : ∀ x : Int, 0 ≤ x → (12 - x).toNat = d → Ev (fun k => laws_FnCut.l0 k f x s a s (cutL f a) s2 a2) true := by
  induction d with
  | zero =>
    intro x h0 hd
    exact Ev.step (fun k => laws_FnCut.l0.eq_2 ..) (Ev.neg (by omega) (Ev.now true))
  | succ d ih =>
    intro x h0 hd
    have hw : wrap64 (x + 1) = x + 1 := wr (by omega) (by omega)
    have hi := ih (x + 1) (by omega) (by omega)
    rw [← hw] at hi
    have hl := (len_of_tube h).1
    have ho := (len_of_tube h).2
    have hc := (len_of_tube (cut_ok f h)).1
    have hco := (len_of_tube (cut_ok f h)).2
    refine Ev.step (fun k => laws_FnCut.l0.eq_2 ..) (Ev.pos (by omega) ?_)
    by_cases f0 : f ≥ 0
    · refine Ev.pos f0 ?_
      by_cases f1 : f ≤ 10000
      · refine Ev.pos f1 (Ev.bind (spec_tube s2 a2) ?_)
        have hx : wrap64 (f + wrap64 (5 * x)) = f + 5 * x := by
          rw [wr (x := 5 * x) (by omega) (by omega), wr (by omega) (by omega)]
        have hf : ∀ {A : Nat → Option Bool}, Ev A true → Ev (fun k => if f > 0 then ((laws_wNearAt.f k s (cutL f a) s2 a2 (wrap64 (f - 1))).bind fun t => if t = true then some false else A k) else A k) true := by
          intro A hA
          by_cases f2 : f > 0
          · have hz : wrap64 (f - 1) = f - 1 := wr (by omega) (by omega)
            rw [hz]
            exact Ev.pos f2 (Ev.bind (nearAt _ _ _ (by omega) (by omega) hco) (Ev.neg (by rw [near_cut_no (by omega)]; simp) hA))
          · exact Ev.neg f2 hA
        by_cases t2 : tubeOk s2 a2 = true
        · refine Ev.pos t2 ?_
          rw [hx]
          exact Ev.bind (nearAt _ _ _ (by omega) (by omega) hco) (Ev.bind (nearAt _ _ _ (by omega) (by omega) ho) (Ev.neg (by rw [near_cut (by omega)]; simp) (hf hi)))
        · exact Ev.neg t2 (hf hi)
      · refine Ev.neg f1 ?_
        by_cases f2 : f > 0
        · exact Ev.pos f2 hi
        · exact Ev.neg f2 hi
    · exact Ev.neg f0 (Ev.neg (by omega) hi)
theorem cut_j1 {s s2 : ByteArray} {a a2 : List S26} {f : Int} (h : tubeOk s a = true) (h2 : a2.length ≤ 41) : Ev (fun k => laws_FnCut.j1 k f false s a s (cutL f a) s2 a2) true :=
  Ev.step (fun k => laws_FnCut.j1.eq_2 ..) (Ev.neg (by simp) (cut_l0 h h2 12 0 (by omega) rfl))
theorem cut_j0 (l m : List Int) (w : ∀ x ∈ l, 0 ≤ x ∧ x ≤ 255) (v : ∀ x ∈ m, 0 ≤ x ∧ x ≤ 255) : Ev (fun k => laws_FnCut.j0 k l m false) true := by
  obtain ⟨s, a, f, e, ha, hs, hf, hf'⟩ := drawCut_ev l w
  obtain ⟨s2, a2, f2, e2, ha2, hs2, _⟩ := drawCut_ev m v
  have hc := cut_len s a f
  refine Ev.step (fun k => laws_FnCut.j0.eq_2 ..) (Ev.neg (by simp) (Ev.bind e (Ev.bind (impl_cut _ _ _) (Ev.bind (spec_cut _ _ _) (Ev.bind (wtube (cut s a f).1 (cut s a f).2 (by omega)) (Ev.pos rfl (Ev.bind (spec_tube s a) ?_)))))))
  by_cases h : tubeOk s a = true
  · have ec : cut s a f = (s, cutL f a) := by rw [cut, if_pos h]
    have hok := cut_ok f h
    have hlen := (len_of_tube hok).1
    refine Ev.pos h (Ev.bind e2 ?_)
    simp only [ec]
    have rest : Ev (fun k => ((impl_ProbeCut.f k s (cutL f a) f).bind fun b => ((laws_wTube.f k b.1 b.2 s (cutL f a)).bind fun t => (if t = true then (if f ≤ f2 then ((impl_ProbeCut.f k s (cutL f a) f2).bind fun c => ((impl_ProbeCut.f k s a f2).bind fun d => ((laws_wTube.f k c.1 c.2 d.1 d.2).bind fun t => (laws_FnCut.j1 k f (!t) s a s (cutL f a) s2 a2)))) else (laws_FnCut.j1 k f false s a s (cutL f a) s2 a2)) else (laws_FnCut.j1 k f true s a s (cutL f a) s2 a2))))) true := by
      refine Ev.bind (impl_cut _ _ _) ?_
      have e1 : cut s (cutL f a) f = (s, cutL f a) := by rw [cut, if_pos hok, cutL_cutL (Int.le_refl _)]
      rw [e1]
      refine Ev.bind (wtube s (cutL f a) (by omega)) (Ev.pos rfl ?_)
      by_cases hff : f ≤ f2
      · refine Ev.pos hff (Ev.bind (impl_cut _ _ _) (Ev.bind (impl_cut _ _ _) ?_))
        have e3 : cut s (cutL f a) f2 = cut s a f2 := by rw [cut, if_pos hok, cut, if_pos h, cutL_cutL hff]
        rw [e3]
        have := cut_len s a f2
        exact Ev.bind (wtube (cut s a f2).1 (cut s a f2).2 (by omega)) (cut_j1 h ha2)
      · exact Ev.neg hff (cut_j1 h ha2)
    by_cases hf1 : f ≤ 10000
    · refine Ev.pos hf1 (Ev.bind (impl_smaller _ _ _ _) (Ev.pos (cut_small f h) rest))
    · exact Ev.neg hf1 rest
  · refine Ev.neg h ?_
    have ec : cut s a f = (⟨#[]⟩, []) := by rw [cut, if_neg h]
    rw [ec]
    exact Ev.bind (wtube _ _ (by simp)) (Ev.now true)
theorem FnCut (l m : List Int) (w : g_bytes l) (v : g_bytes m) : ∃ k, laws_FnCut.f k l m = some true := by
  refine Ev.rounds (g := fun k => laws_FnCut.f k l m) ?_
  unfold laws_FnCut.f
  have no : Ev (fun k => laws_FnCut.j0 k l m true) true := Ev.step (fun k => laws_FnCut.j0.eq_2 ..) (Ev.pos rfl (Ev.now true))
  by_cases h : (l.length : Int) > 1048576
  · exact Ev.pos h no
  · refine Ev.neg h ?_
    by_cases h' : (m.length : Int) > 1048576
    · rw [decide_eq_true h']; exact no
    · rw [decide_eq_false h']; exact cut_j0 l m (bytes_of w) (bytes_of v)
end Go.Proofs.Ytfoapgcnjnogiaa.Pure
