/- What an event makes of the tubes: program and reference, one model for both; held marks of tubes. No condition beside the sizes that are typed. -/
import Derived.Test.YtdbomnhdpniigaaQ10
namespace Go.Proofs.Ytdbomnhdpniigaa.Q
open Go.RowKit Go.Proofs.Ytdbomnhdpniigaa.PA Go.Proofs.YtdbomnhdpniigaaW.PrintWords Go.Proofs.YtdbomnhdpniigaaW.PrintLast Go.Proofs.YtdbomnhdpniigaaW.PrintMore

theorem helds_l : ∀ (r : List S40) (pre : List S40) (K : Int), 0 ≤ K → K + cntT r ≤ 100000000000000 → pre.length + r.length ≤ 100000000 → (∀ x ∈ r, x.f1.length ≤ 1048576) →
    Ev (fun k => laws_heldProbeTubeS.l0 k (pre ++ markT r K) K (pre.length : Int)) (K + cntT r)
  | [], pre, K, _, _, _, _ => by
    refine Ev.step (f := fun _ => some K) (fun k => ?_) (Ev.is (by simp [cntT]))
    simp only [laws_heldProbeTubeS.l0, markT, List.append_nil]
    rw [if_neg (by omega)]
  | x :: r, pre, K, h0, h1, h2, h3 => by
    have hx := h3 x (by simp)
    have hc := cnt_le (l := r) (fun x hx => h3 x (by simp [hx]))
    simp only [List.length_cons, cntT] at h1 h2
    have ih := helds_l r (pre ++ [⟨mt K, markL x.f1 (K + 1)⟩]) (K + 1 + 6 * x.f1.length) (by omega) (by omega) (by simp; omega) (fun y hy => h3 y (by simp [hy]))
    have hr : rd_T40 (pre ++ markT (x :: r) K) (pre.length : Int) = ⟨mt K, markL x.f1 (K + 1)⟩ := by
      unfold rd_T40
      simp [markT]
    refine Ev.step (f := fun k => (laws_markText.f k K).bind fun t => if (mt K).toList = t.toList then (laws_heldProbeBoxS.f k (markL x.f1 (K + 1)) (K + 1)).bind fun b => if b < 0 then some (-1) else laws_heldProbeTubeS.l0 k (pre ++ markT (x :: r) K) b ((pre.length + 1 : Nat) : Int) else some (-1)) (fun k => ?_) (Ev.bind (mt_ev (by omega)) (Ev.pos rfl (Ev.bind (held_boxes x.f1 (by omega) (K := K + 1) (by omega) (by omega)) (Ev.neg (by omega) (Ev.eq (Ev.congr (fun k => ?_) ih) ?_)))))
    · simp only [laws_heldProbeTubeS.l0]
      rw [if_pos (by simp [markT]; omega), if_pos (by omega), hr]
      congr 1
      funext t
      simp only
      rw [w1 h0 (by omega), w64 (n := 100000000) (by omega) (by omega)]
    · simp [markT]
    · simp only [cntT]
      omega
theorem held_tubes (l : List S40) (hl : l.length ≤ 1048576) (hb : ∀ x ∈ l, x.f1.length ≤ 1048576) : Ev (fun k => laws_heldProbeTubeS.f k (markT l 1) 1) (1 + cntT l) := by
  unfold laws_heldProbeTubeS.f
  have := cnt_le hb
  exact helds_l l [] 1 (by omega) (by omega) (by simp; omega) hb

/-! ### The model -/
def place (L : List S40) (s : ByteArray) : Nat := L.findIdx fun t => !(Op.bytesLess t.f0.toList s.toList)
def isThere (L : List S40) (s : ByteArray) : Bool := decide (place L s < L.length) && ((rd_T40 L (place L s : Int)).f0.toList == s.toList)
def happen (L : List S40) (d : Bool) (s : ByteArray) (l : List S95) : List S40 × Int :=
  if skyOk L = true then
    if d = true then (if isThere L s = true then (L.eraseIdx (place L s), 0) else (L, 3))
    else if tubeOk s l = true then
      (if isThere L s = true then (L.set (place L s) ⟨s, l⟩, 0) else if L.length = 24 then (L, 4) else (L.take (place L s) ++ ⟨s, l⟩ :: L.drop (place L s), 0))
    else (L, 2)
  else ([], 1)
def Small (L : List S40) : Prop := L.length ≤ 100 ∧ ∀ x ∈ L, x.f1.length ≤ 1000
theorem small_sky {L : List S40} (h : skyOk L = true) : Small L := by
  have hk := sky_len h
  exact ⟨by omega, fun x hx => by have := (len_of_tube (hk.2 x hx)).1; omega⟩
theorem happen_small (L : List S40) (d : Bool) (s : ByteArray) (l : List S95) : Small (happen L d s l).1 := by
  unfold happen
  by_cases h : skyOk L = true
  · have hk := sky_len h
    have hs := small_sky h
    rw [if_pos h]
    split
    · split
      · exact ⟨by have := List.length_eraseIdx_le L (place L s); simp only; omega, fun x hx => hs.2 x (List.mem_of_mem_eraseIdx hx)⟩
      · exact hs
    · split
      · rename_i ht
        have hl := (len_of_tube ht).1
        split
        · refine ⟨by simp only [List.length_set]; omega, fun x hx => ?_⟩
          rcases List.mem_or_eq_of_mem_set hx with hx | rfl
          · exact hs.2 x hx
          · simp only; omega
        · split
          · exact hs
          · refine ⟨by simp only [List.length_append, List.length_cons, List.length_take, List.length_drop]; omega, fun x hx => ?_⟩
            rcases List.mem_append.1 hx with hx | hx
            · exact hs.2 x (List.mem_of_mem_take hx)
            · rcases List.mem_cons.1 hx with rfl | hx
              · simp only; omega
              · exact hs.2 x (List.mem_of_mem_drop hx)
      · exact hs
  · rw [if_neg h]
    exact ⟨by simp, fun x hx => by simp at hx⟩
theorem place_le (L : List S40) (s : ByteArray) : place L s ≤ L.length := List.findIdx_le_length
theorem search_place {L : List S40} (h : skyOk L = true) (s : ByteArray) : impl_search.f (L.length : Int) L s = some (place L s : Int) := by
  have hl := (sky_len h).1
  unfold impl_search.f
  rw [if_pos ⟨rfl, by omega, asc_of h _⟩]
  rfl
theorem impl_happen (L : List S40) (d : Bool) (s : ByteArray) (l : List S95) : Ev (fun k => impl_ProbeHappen.f k L d s l) (happen L d s l) := by
  unfold impl_ProbeHappen.f
  refine Ev.bind (impl_sky L) ?_
  by_cases h : skyOk L = true
  · have hl := (sky_len h).1
    have hp := place_le L s
    refine Ev.pos h (Ev.bind (copy_tubes h) ?_)
    simp only [search_place h s, Option.bind_some]
    have core : Ev (fun k => impl_ProbeHappen.j0 k L (place L s : Int) (isThere L s) L d s l) (happen L d s l) := by
      cases d with
      | true =>
        refine Ev.step (fun k => impl_ProbeHappen.j0.eq_2 ..) (Ev.pos rfl ?_)
        refine Ev.step (fun k => impl_ProbeHappen.j1.eq_2 ..) (Ev.neg (by simp) (Ev.pos rfl ?_))
        refine Ev.step (fun k => impl_ProbeHappen.j2.eq_2 ..) ?_
        by_cases ht : isThere L s = true
        · have hpl : place L s < L.length := by
            simp only [isThere, Bool.and_eq_true, decide_eq_true_eq] at ht
            exact ht.1
          have hw := w64 hpl (show L.length ≤ 9223372036854775807 by omega)
          refine Ev.neg (by simp [ht]) (Ev.pos rfl (Ev.pos (by omega) (Ev.pos (by omega) (Ev.pos (by omega) (Ev.pos (by omega) (Ev.is ?_))))))
          simp [happen, h, ht]
        · exact Ev.pos (by simpa using ht) (Ev.is (by simp [happen, h, ht]))
      | false =>
        refine Ev.step (fun k => impl_ProbeHappen.j0.eq_2 ..) (Ev.neg (by simp) (Ev.bind (impl_tube s l) ?_))
        refine Ev.step (fun k => impl_ProbeHappen.j1.eq_2 ..) ?_
        by_cases ho : tubeOk s l = true
        · have hll := (len_of_tube ho).1
          refine Ev.neg (by simp [ho]) (Ev.neg (by simp) ?_)
          refine Ev.step (fun k => impl_ProbeHappen.j2.eq_2 ..) (Ev.neg (by simp) (Ev.neg (by simp) ?_))
          by_cases ht : isThere L s = true
          · have hpl : place L s < L.length := by
              simp only [isThere, Bool.and_eq_true, decide_eq_true_eq] at ht
              exact ht.1
            refine Ev.pos ht ?_
            simp only [copy_tube (s := s) (l := l) (by omega), Option.bind_some]
            exact Ev.pos (by omega) (Ev.pos (by omega) (Ev.is (by simp [happen, h, ht, ho])))
          · refine Ev.neg ht ?_
            by_cases h24 : (L.length : Int) = 24
            · exact Ev.pos h24 (Ev.is (by simp [happen, h, ht, ho, show L.length = 24 by omega]))
            · refine Ev.neg h24 ?_
              simp only [copy_tube (s := s) (l := l) (by omega), Option.bind_some]
              exact Ev.pos (by omega) (Ev.pos (by omega) (Ev.pos (by omega) (Ev.is (by simp [happen, h, ht, ho, show ¬ L.length = 24 by omega]))))
        · exact Ev.pos (by simpa using ho) (Ev.is (by simp [happen, h, ho]))
    by_cases hpl : place L s < L.length
    · refine Ev.pos (by omega) (Ev.pos (by omega) (Ev.congr (fun k => ?_) core))
      congr 1
      simp [isThere, hpl]
    · refine Ev.neg (by omega) (Ev.congr (fun k => ?_) core)
      congr 1
      simp [isThere, hpl]
  · exact Ev.neg h (Ev.is (by simp [happen, h]))

/-! ### The reference -/
theorem copy2 {s : ByteArray} {l : List S95} (hl : l.length ≤ 1000) : spec_l2Copy.f s l = some (s, l) := by
  unfold spec_l2Copy.f
  simp only [Option.bind_some]
  rw [if_pos (by simp; omega)]
  simp
theorem list_l {L : List S40} (h : Small L) : ∀ i : Nat, i ≤ L.length → ∀ acc : List S40, acc.length ≤ i → Ev (fun k => spec_l2List.l0 k L acc (i : Int)) (acc ++ L.drop i) :=
  drop_ind L (P := fun i r => ∀ acc : List S40, acc.length ≤ i → Ev (fun k => spec_l2List.l0 k L acc (i : Int)) (acc ++ r))
    (fun acc _ => Ev.step (f := fun _ => some acc) (fun k => by simp only [spec_l2List.l0]; rw [if_neg (by omega)]) (Ev.is (by simp)))
    (fun i hi ih acc ha => by
      have hk := h.1
      have hx := h.2 _ (List.getElem_mem hi)
      refine Ev.step (f := fun k => spec_l2List.l0 k L (acc ++ [L[i]]) ((i + 1 : Nat) : Int)) (fun k => ?_) (Ev.eq (ih (acc ++ [L[i]]) (by simp; omega)) (by simp))
      simp only [spec_l2List.l0]
      rw [if_pos (by omega), if_pos (by omega), rd39 hi, copy2 hx, w64 hi (by omega)]
      simp only [Option.bind_some]
      rw [if_pos (by omega)])
theorem list_ev {L : List S40} (h : Small L) : Ev (fun k => spec_l2List.f k L) L := by
  unfold spec_l2List.f
  exact list_l h 0 (by omega) [] (by simp)
/-- The place of a name, -1 if it is not there. -/
def atOf (L : List S40) (s : ByteArray) : Int := if isThere L s = true then (place L s : Int) else -1
theorem less_below {L : List S40} {s : ByteArray} {i : Nat} (hi : i < L.length) (h : i < place L s) : Op.bytesLess L[i].f0.toList s.toList = true := by
  have := List.not_of_lt_findIdx (p := fun t : S40 => !(Op.bytesLess t.f0.toList s.toList)) (xs := L) (i := i) h
  simpa using this
theorem not_less_at {L : List S40} {s : ByteArray} (h : place L s < L.length) : Op.bytesLess (L[place L s]'h).f0.toList s.toList = false := by
  have := List.findIdx_getElem (p := fun t : S40 => !(Op.bytesLess t.f0.toList s.toList)) (xs := L) (w := h)
  simp only [Bool.not_eq_true'] at this
  exact this
theorem name_ne {L : List S40} (h : skyOk L = true) {s : ByteArray} {i : Nat} (hi : i < L.length) (ha : (i : Int) ≠ atOf L s) : L[i].f0.toList ≠ s.toList := by
  intro e
  have hp := List.pairwise_iff_getElem.1 (skyPw h)
  have hnl : ¬ i < place L s := fun hlt => by
    have := less_below hi hlt
    rw [e, bl_irrefl] at this
    cases this
  have hpl : place L s < L.length := by omega
  by_cases hip : i = place L s
  · have ht : isThere L s = true := by
      simp only [isThere, Bool.and_eq_true, decide_eq_true_eq, beq_iff_eq]
      refine ⟨hpl, ?_⟩
      rw [rd39 hpl]
      have : L[place L s] = L[i] := by congr 1; exact hip.symm
      rw [this]; exact e
    exact ha (by rw [atOf, if_pos ht]; omega)
  · have h1 := hp (place L s) i hpl hi (by omega)
    have h2 := not_less_at hpl
    unfold lt at h1
    rw [e] at h1
    rw [h1] at h2
    cases h2
theorem at_l {L : List S40} (h : skyOk L = true) (s : ByteArray) : ∀ i : Nat, i ≤ L.length → ((i : Int) ≤ atOf L s ∨ isThere L s = false) → Ev (fun k => spec_l6At.l0 k L s (i : Int)) (atOf L s) :=
  drop_ind L (P := fun i _ => ((i : Int) ≤ atOf L s ∨ isThere L s = false) → Ev (fun k => spec_l6At.l0 k L s (i : Int)) (atOf L s))
    (fun hc => by
      refine Ev.step (f := fun _ => some (-1)) (fun k => by simp only [spec_l6At.l0]; rw [if_neg (by omega)]) (Ev.is ?_)
      have : isThere L s = false := hc.elim (fun hle => by
        cases ht : isThere L s with
        | false => rfl
        | true =>
          have hpl : place L s < L.length := by
            simp only [isThere, Bool.and_eq_true, decide_eq_true_eq] at ht
            exact ht.1
          rw [atOf, if_pos ht] at hle
          omega) id
      rw [atOf, if_neg (by simp [this])])
    (fun i hi ih hc => by
      have hl := (sky_len h).1
      by_cases he : L[i].f0.toList = s.toList
      · have : (i : Int) = atOf L s := by
          by_cases hne : (i : Int) = atOf L s
          · exact hne
          · exact absurd he (name_ne h hi hne)
        refine Ev.step (f := fun _ => some (i : Int)) (fun k => ?_) (Ev.is (by rw [this]))
        simp only [spec_l6At.l0]
        rw [if_pos (by omega), if_pos (by omega), rd39 hi, if_pos he]
      · refine Ev.step (f := fun k => spec_l6At.l0 k L s ((i + 1 : Nat) : Int)) (fun k => ?_) (ih ?_)
        · simp only [spec_l6At.l0]
          rw [if_pos (by omega), if_pos (by omega), rd39 hi, if_neg he, w64 hi (by omega)]
        · rcases hc with hc | hc
          · by_cases ht : isThere L s = true
            · left
              have hpl : place L s < L.length ∧ (rd_T40 L (place L s : Int)).f0.toList = s.toList := by
                simpa only [isThere, Bool.and_eq_true, decide_eq_true_eq, beq_iff_eq] using ht
              rw [atOf, if_pos ht] at hc ⊢
              rw [rd39 hpl.1] at hpl
              have hne : i ≠ place L s := fun e => he (by have : L[i] = L[place L s]'hpl.1 := by congr 1
                                                          rw [this]; exact hpl.2)
              omega
            · right
              simpa using ht
          · exact .inr hc)
theorem at_ev {L : List S40} (h : skyOk L = true) (s : ByteArray) : Ev (fun k => spec_l6At.f k L s) (atOf L s) := by
  unfold spec_l6At.f
  refine at_l h s 0 (by omega) ?_
  by_cases ht : isThere L s = true
  · left; rw [atOf, if_pos ht]; omega
  · right; simpa using ht
/-- All but the one at place A. -/
def skipL (A : Int) : Nat → List S40 → List S40
  | _, [] => []
  | i, x :: r => if (i : Int) = A then skipL A (i + 1) r else x :: skipL A (i + 1) r
theorem skip_none {A : Int} : ∀ (r : List S40) (i : Nat), (∀ j : Nat, i ≤ j → (j : Int) ≠ A) → skipL A i r = r
  | [], _, _ => rfl
  | x :: r, i, h => by rw [skipL, if_neg (h i (Nat.le_refl _)), skip_none r (i + 1) (fun j hj => h j (by omega))]
theorem skip_at : ∀ (r : List S40) (i p : Nat), skipL ((i + p : Nat) : Int) i r = r.eraseIdx p
  | [], _, _ => rfl
  | x :: r, i, 0 => by rw [skipL, if_pos (by omega), skip_none r (i + 1) (fun j hj => by omega), List.eraseIdx_zero, List.tail_cons]
  | x :: r, i, p + 1 => by
    have := skip_at r (i + 1) p
    rw [skipL, if_neg (by omega), List.eraseIdx_cons_succ, ← this]
    congr 2
    omega
theorem done_l {L : List S40} (h : skyOk L = true) (A : Int) (d : Bool) (s : ByteArray) (l : List S95) : ∀ i : Nat, i ≤ L.length → ∀ acc : List S40, acc.length ≤ i + 1 → (∀ x ∈ acc, x.f1.length ≤ 1000) →
    Ev (fun k => spec_ProbeHappen.l0 k L A acc true (i : Int) d s l) (acc ++ skipL A i (L.drop i), 0) :=
  drop_ind L (P := fun i r => ∀ acc : List S40, acc.length ≤ i + 1 → (∀ x ∈ acc, x.f1.length ≤ 1000) → Ev (fun k => spec_ProbeHappen.l0 k L A acc true (i : Int) d s l) (acc ++ skipL A i r, 0))
    (fun acc ha hb => by
      have hl := (sky_len h).1
      refine Ev.step (fun k => spec_ProbeHappen.l0.eq_2 ..) (Ev.neg (by omega) (Ev.pos rfl (Ev.bind (list_ev ⟨by omega, hb⟩) (Ev.is (by simp [skipL])))))
    )
    (fun i hi ih acc ha hb => by
      have hk := sky_len h
      have hx := (len_of_tube (hk.2 _ (List.getElem_mem hi))).1
      refine Ev.step (fun k => spec_ProbeHappen.l0.eq_2 ..) (Ev.pos (by omega) (Ev.pos rfl ?_))
      refine Ev.step (fun k => spec_ProbeHappen.j4.eq_2 ..) (Ev.neg (by simp) ?_)
      have hw := w64 hi (show L.length ≤ 9223372036854775807 by omega)
      by_cases hA : (i : Int) = A
      · refine Ev.pos hA ?_
        rw [hw, skipL, if_pos hA]
        exact ih acc (by omega) hb
      · refine Ev.neg hA (Ev.pos (by omega) (Ev.pos (by omega) (Ev.pos (by omega) ?_)))
        rw [hw, rd39 hi, skipL, if_neg hA]
        refine Ev.eq (ih (acc ++ [L[i]]) (by simp; omega) (fun x hx' => ?_)) (by simp)
        rcases List.mem_append.1 hx' with hx' | hx'
        · exact hb x hx'
        · rw [List.mem_singleton.1 hx']; omega)
theorem put_l {L : List S40} (h : skyOk L = true) {s : ByteArray} {l : List S95} {R : List S40 × Int}
    (hR : Ev (fun k => spec_ProbeHappen.l0 k L (atOf L s) (L.take (place L s)) false (place L s : Int) false s l) R) :
    ∀ m i : Nat, i + m = place L s → Ev (fun k => spec_ProbeHappen.l0 k L (atOf L s) (L.take i) false (i : Int) false s l) R := by
  intro m
  induction m with
  | zero =>
    intro i hi
    obtain rfl : i = place L s := by omega
    exact hR
  | succ m ih =>
    intro i hi
    have hk := sky_len h
    have hpl := place_le L s
    have hil : i < L.length := by omega
    have hne : (i : Int) ≠ atOf L s := by
      unfold atOf
      split <;> omega
    have hw := w64 hil (show L.length ≤ 9223372036854775807 by omega)
    refine Ev.step (fun k => spec_ProbeHappen.l0.eq_2 ..) (Ev.pos (by omega) (Ev.neg (by simp) (Ev.pos (by omega) ?_)))
    rw [rd39 hil, less_below hil (by omega)]
    refine Ev.step (fun k => spec_ProbeHappen.j4.eq_2 ..) (Ev.neg (by simp) (Ev.neg hne (Ev.pos (by omega) (Ev.pos (by omega) (Ev.pos (by rw [List.length_take]; omega) ?_)))))
    rw [hw, rd39 hil]
    have := ih (i + 1) (by omega)
    rw [List.take_succ_eq_append_getElem hil] at this
    exact this
theorem spec_happen (L : List S40) (d : Bool) (s : ByteArray) (l : List S95) : Ev (fun k => spec_ProbeHappen.f k L d s l) (happen L d s l) := by
  unfold spec_ProbeHappen.f
  refine Ev.bind (spec_sky L) ?_
  by_cases h : skyOk L = true
  · have hk := sky_len h
    have hs := small_sky h
    have hp := place_le L s
    refine Ev.pos h ?_
    cases d with
    | true =>
      refine Ev.pos rfl (Ev.step (fun k => spec_ProbeHappen.j0.eq_2 ..) (Ev.neg (by simp) (Ev.bind (at_ev h s) (Ev.pos rfl ?_))))
      refine Ev.step (fun k => spec_ProbeHappen.j1.eq_2 ..) ?_
      by_cases ht : isThere L s = true
      · refine Ev.neg (by rw [atOf, if_pos ht]; simp) (Ev.pos rfl ?_)
        refine Ev.step (fun k => spec_ProbeHappen.j2.eq_2 ..) (Ev.neg (by simp) ?_)
        refine Ev.eq (done_l h (atOf L s) true s l 0 (by omega) [] (by simp) (by simp)) ?_
        have := skip_at L 0 (place L s)
        rw [Nat.zero_add] at this
        rw [atOf, if_pos ht, List.drop_zero, List.nil_append, this]
        simp [happen, h, ht]
      · exact Ev.pos (by rw [atOf, if_neg ht]; simp) (Ev.bind (list_ev hs) (Ev.is (by simp [happen, h, ht])))
    | false =>
      refine Ev.neg (by simp) (Ev.bind (spec_tube s l) (Ev.step (fun k => spec_ProbeHappen.j0.eq_2 ..) ?_))
      by_cases ho : tubeOk s l = true
      · have hll := (len_of_tube ho).1
        refine Ev.neg (by simp [ho]) (Ev.bind (at_ev h s) (Ev.neg (by simp) ?_))
        refine Ev.step (fun k => spec_ProbeHappen.j1.eq_2 ..) (Ev.neg (by simp) (Ev.neg (by simp) ?_))
        have put : ∀ R, Ev (fun k => spec_ProbeHappen.l0 k L (atOf L s) (L.take (place L s)) false (place L s : Int) false s l) R → Ev (fun k => spec_ProbeHappen.j2 k L (atOf L s) false false s l) R := fun R hR =>
          Ev.step (fun k => spec_ProbeHappen.j2.eq_2 ..) (Ev.neg (by simp) (put_l h hR (place L s) 0 (by omega)))
        have hbt : ∀ x ∈ L.take (place L s) ++ [(⟨s, l⟩ : S40)], x.f1.length ≤ 1000 := fun x hx => by
          rcases List.mem_append.1 hx with hx | hx
          · exact hs.2 x (List.mem_of_mem_take hx)
          · rw [List.mem_singleton.1 hx]; simp only; omega
        have hlt : (L.take (place L s)).length = place L s := by rw [List.length_take]; omega
        by_cases ht : isThere L s = true
        · have hpl : place L s < L.length := by
            simp only [isThere, Bool.and_eq_true, decide_eq_true_eq] at ht
            exact ht.1
          have hA : atOf L s = (place L s : Int) := by rw [atOf, if_pos ht]
          refine Ev.neg (by rw [hA]; omega) (put _ ?_)
          have hw := w64 hpl (show L.length ≤ 9223372036854775807 by omega)
          refine Ev.step (fun k => spec_ProbeHappen.l0.eq_2 ..) (Ev.pos (by omega) (Ev.neg (by simp) (Ev.pos (by omega) ?_)))
          rw [rd39 hpl, not_less_at hpl]
          refine Ev.step (fun k => spec_ProbeHappen.j4.eq_2 ..) (Ev.pos rfl (Ev.pos (by omega) ?_))
          simp only [Option.bind_some]
          refine Ev.pos hA.symm ?_
          rw [hw]
          refine Ev.eq (done_l h (atOf L s) false s l (place L s + 1) (by omega) _ (by rw [List.length_append, hlt, List.length_singleton]; omega) hbt) ?_
          rw [skip_none _ _ (fun j hj => by rw [hA]; omega)]
          simp [happen, h, ht, ho, List.set_eq_take_append_cons_drop, hpl]
        · have hA : atOf L s = -1 := by rw [atOf, if_neg ht]
          refine Ev.pos (by rw [hA]; omega) ?_
          by_cases h24 : L.length = 24
          · rw [show (decide ((L.length : Int) ≥ 24)) = true from decide_eq_true (by omega)]
            exact Ev.step (fun k => spec_ProbeHappen.j2.eq_2 ..) (Ev.pos rfl (Ev.bind (list_ev hs) (Ev.is (by simp [happen, h, ht, ho, h24]))))
          · rw [show (decide ((L.length : Int) ≥ 24)) = false from decide_eq_false (by omega)]
            refine put _ ?_
            have hres : happen L false s l = (L.take (place L s) ++ ⟨s, l⟩ :: L.drop (place L s), 0) := by simp [happen, h, ht, ho, h24]
            by_cases hpl : place L s < L.length
            · have hw := w64 hpl (show L.length ≤ 9223372036854775807 by omega)
              refine Ev.step (fun k => spec_ProbeHappen.l0.eq_2 ..) (Ev.pos (by omega) (Ev.neg (by simp) (Ev.pos (by omega) ?_)))
              rw [rd39 hpl, not_less_at hpl]
              refine Ev.step (fun k => spec_ProbeHappen.j4.eq_2 ..) (Ev.pos rfl (Ev.pos (by omega) ?_))
              simp only [Option.bind_some]
              refine Ev.neg (by rw [hA]; omega) (Ev.pos (by omega) (Ev.pos (by omega) (Ev.pos (by rw [List.length_append, hlt, List.length_singleton]; omega) ?_)))
              rw [hw, rd39 hpl]
              refine Ev.eq (done_l h (atOf L s) false s l (place L s + 1) (by omega) _ (by rw [List.length_append, List.length_append, hlt, List.length_singleton, List.length_singleton]; omega) (fun x hx => ?_)) ?_
              · rcases List.mem_append.1 hx with hx | hx
                · exact hbt x hx
                · rw [List.mem_singleton.1 hx]; exact hs.2 _ (List.getElem_mem hpl)
              · rw [skip_none _ _ (fun j hj => by rw [hA]; omega), hres]
                simp
                exact (List.drop_eq_getElem_cons hpl).symm
            · have hpe : place L s = L.length := by omega
              refine Ev.step (fun k => spec_ProbeHappen.l0.eq_2 ..) (Ev.neg (by omega) (Ev.neg (by simp) (Ev.pos (by omega) (Ev.bind (list_ev ⟨by rw [List.length_append, hlt, List.length_singleton]; omega, hbt⟩) (Ev.is ?_)))))
              rw [hres, hpe, List.drop_length]
      · exact Ev.pos (by simpa using ho) (Ev.bind (list_ev hs) (Ev.is (by simp [happen, h, ho])))
  · exact Ev.neg h (Ev.is (by simp [happen, h]))
end Go.Proofs.Ytdbomnhdpniigaa.Q
