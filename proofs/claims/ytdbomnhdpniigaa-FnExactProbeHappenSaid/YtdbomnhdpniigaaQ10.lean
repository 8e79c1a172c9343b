/- The order of names, one taken out of the tubes, and which clashes that takes out. No condition beside the sizes that are typed. -/
import Derived.Test.YtdbomnhdpniigaaQ9
import Derived.Test.YtdbomnhdpniigaaQ7
namespace Go.Proofs.Ytdbomnhdpniigaa.Q
open Go.RowKit Go.Proofs.Ytdbomnhdpniigaa.PA Go.Proofs.YtdbomnhdpniigaaW.PrintWords Go.Proofs.YtdbomnhdpniigaaW.PrintLast Go.Proofs.YtdbomnhdpniigaaW.PrintMore

/-! ### The order of names -/
theorem bl_irrefl : ∀ x : List UInt8, Op.bytesLess x x = false
  | [] => rfl
  | a :: x => by simp [Op.bytesLess, bl_irrefl x]
theorem bl_trans : ∀ x y z : List UInt8, Op.bytesLess x y = true → Op.bytesLess y z = true → Op.bytesLess x z = true
  | _, _, [], _, h => by simp [Op.bytesLess] at h
  | _, [], _ :: _, h, _ => by simp [Op.bytesLess] at h
  | [], _ :: _, _ :: _, _, _ => by simp [Op.bytesLess]
  | a :: x, b :: y, c :: z, h, h' => by
    simp only [Op.bytesLess, Bool.or_eq_true, decide_eq_true_eq, Bool.and_eq_true, beq_iff_eq] at h h' ⊢
    rcases h with h | ⟨rfl, h⟩
    · rcases h' with h' | ⟨rfl, h'⟩
      · exact .inl (UInt8.lt_trans h h')
      · exact .inl h
    · rcases h' with h' | ⟨rfl, h'⟩
      · exact .inl h'
      · exact .inr ⟨rfl, bl_trans x y z h h'⟩
theorem lt_ne {s t : ByteArray} (h : lt s t = true) : s.toList ≠ t.toList := by
  intro e
  unfold lt at h
  rw [e, bl_irrefl] at h
  cases h
theorem sky_pw : ∀ {l : List S40} {p : Option ByteArray}, skyFrom p l = true → (∀ n, p = some n → ∀ t ∈ l, lt n t.f0 = true) ∧ l.Pairwise (fun a b => lt a.f0 b.f0 = true)
  | [], _, _ => ⟨fun _ _ t ht => by simp at ht, List.Pairwise.nil⟩
  | t :: r, p, h => by
    simp only [skyFrom, Bool.and_eq_true] at h
    obtain ⟨⟨_, h1⟩, h2⟩ := h
    have ih := sky_pw h2
    refine ⟨fun n hn u hu => ?_, List.Pairwise.cons (fun u hu => ih.1 t.f0 rfl u hu) ih.2⟩
    subst hn
    rcases List.mem_cons.1 hu with rfl | hu
    · exact h1
    · exact bl_trans _ _ _ h1 (ih.1 t.f0 rfl u hu)
theorem sky_of_pw : ∀ {l : List S40} {p : Option ByteArray}, (∀ n, p = some n → ∀ t ∈ l, lt n t.f0 = true) → l.Pairwise (fun a b => lt a.f0 b.f0 = true) → (∀ t ∈ l, tubeOk t.f0 t.f1 = true) → skyFrom p l = true
  | [], _, _, _, _ => rfl
  | t :: r, p, h, hp, ho => by
    obtain ⟨h1, h2⟩ := List.pairwise_cons.1 hp
    simp only [skyFrom, Bool.and_eq_true]
    refine ⟨⟨ho t (by simp), ?_⟩, sky_of_pw (p := some t.f0) (fun n hn u hu => ?_) h2 (fun u hu => ho u (by simp [hu]))⟩
    · cases p with
      | none => rfl
      | some n => exact h n rfl t (by simp)
    · injection hn with hn
      subst hn
      exact h1 u hu
theorem skyPw {L : List S40} (h : skyOk L = true) : L.Pairwise (fun a b => lt a.f0 b.f0 = true) := by
  simp only [skyOk, Bool.and_eq_true] at h
  exact (sky_pw h.2).2
theorem sky_sub {L M : List S40} (h : skyOk L = true) (hs : M.Sublist L) : skyOk M = true := by
  have h1 := sky_len h
  have h2 := hs.length_le
  simp only [skyOk, Bool.and_eq_true, decide_eq_true_eq]
  exact ⟨by omega, sky_of_pw (fun n hn => nomatch hn) ((skyPw h).sublist hs) (fun t ht => h1.2 t (hs.subset ht))⟩
theorem asc_of {L : List S40} (h : skyOk L = true) (s : ByteArray) : Asc L s := by
  have hp := List.pairwise_iff_getElem.1 (skyPw h)
  intro b hb a ha h0
  rw [rd39 (show a < L.length by omega)] at h0
  rw [rd39 hb]
  cases e : Op.bytesLess L[b].f0.toList s.toList with
  | false => rfl
  | true =>
    by_cases hab : a = b
    · subst hab
      rw [e] at h0
      cases h0
    · have := bl_trans _ _ _ (hp a b (by omega) hb (by omega)) e
      rw [h0] at this
      cases this
theorem search_at {L : List S40} (h : skyOk L = true) {i : Nat} (hi : i < L.length) : impl_search.f (L.length : Int) L L[i].f0 = some (i : Int) := by
  have hp := List.pairwise_iff_getElem.1 (skyPw h)
  have hl := (sky_len h).1
  unfold impl_search.f
  rw [if_pos ⟨rfl, by omega, asc_of h _⟩, (List.findIdx_eq hi).2 ⟨by simp [bl_irrefl], fun j hj => ?_⟩]
  have := hp j i (by omega) hi hj
  unfold lt at this
  simp [this]
theorem copy_tube {s : ByteArray} {l : List S95} (hl : l.length ≤ 1000) : impl_copyTube.f s l = some (s, l) := by
  unfold impl_copyTube.f
  simp only [Option.bind_some]
  rw [if_pos (by simp; omega)]
  simp
theorem copy_tubes_l {L : List S40} (h : skyOk L = true) : ∀ i : Nat, i ≤ L.length → ∀ acc : List S40, acc.length ≤ i → Ev (fun k => impl_copyTubes.l0 k acc L (L.length : Int) (i : Int)) (acc ++ L.drop i) :=
  drop_ind L (P := fun i r => ∀ acc : List S40, acc.length ≤ i → Ev (fun k => impl_copyTubes.l0 k acc L (L.length : Int) (i : Int)) (acc ++ r))
    (fun acc _ => Ev.step (f := fun _ => some acc) (fun k => by simp only [impl_copyTubes.l0]; rw [if_neg (by omega)]) (Ev.is (by simp)))
    (fun i hi ih acc ha => by
      have hk := sky_len h
      have hx := (len_of_tube (hk.2 _ (List.getElem_mem hi))).1
      refine Ev.step (f := fun k => impl_copyTubes.l0 k (acc ++ [L[i]]) L (L.length : Int) ((i + 1 : Nat) : Int)) (fun k => ?_) (Ev.eq (ih (acc ++ [L[i]]) (by simp; omega)) (by simp))
      simp only [impl_copyTubes.l0]
      rw [if_pos (by omega), if_pos (by omega), if_pos (by omega), rd39 hi, copy_tube (by omega), w64 hi (by omega)]
      simp only [Option.bind_some]
      rw [if_pos (by omega)])
theorem copy_tubes {L : List S40} (h : skyOk L = true) : Ev (fun k => impl_copyTubes.f k L) L := by
  unfold impl_copyTubes.f
  exact copy_tubes_l h 0 (by omega) [] (by simp)
/-- One that is there, dropped. -/
theorem impl_drop {L : List S40} (h : skyOk L = true) {i : Nat} (hi : i < L.length) : Ev (fun k => impl_ProbeHappen.f k L true L[i].f0 L[i].f1) (L.eraseIdx i, 0) := by
  have hl := (sky_len h).1
  unfold impl_ProbeHappen.f
  refine Ev.bind (impl_sky L) (Ev.pos h (Ev.bind (copy_tubes h) ?_))
  simp only [search_at h hi, Option.bind_some, rd39 hi]
  refine Ev.pos (by omega) (Ev.pos (by omega) ?_)
  refine Ev.step (fun k => impl_ProbeHappen.j0.eq_2 ..) (Ev.pos rfl ?_)
  refine Ev.step (fun k => impl_ProbeHappen.j1.eq_2 ..) (Ev.neg (by simp) (Ev.pos rfl ?_))
  refine Ev.step (fun k => impl_ProbeHappen.j2.eq_2 ..) (Ev.neg (by simp) (Ev.pos rfl ?_))
  have hw := w64 hi (show L.length ≤ 9223372036854775807 by omega)
  refine Ev.pos (by omega) (Ev.pos (by omega) (Ev.pos (by omega) (Ev.pos (by omega) (Ev.is ?_))))
  simp

/-! ### Which clashes one is in -/
def met (a b : S40) : Bool := (meetSt a.f1 b.f1).isSome
def hit (s : ByteArray) (c : S49) : Bool := decide (c.f0.toList = s.toList) || decide (c.f1.toList = s.toList)
theorem meet_none' {l l' : List S95} : meetSt l l' = none ↔ ∀ x ∈ l, ∀ y ∈ l', ¬ (bNear x y).2 = true := by
  have h := best l l'
  cases e : meetSt l l' with
  | none =>
    rw [e] at h
    exact ⟨fun _ x hx y hy => h x y ⟨hx, hy⟩, fun _ => rfl⟩
  | some t =>
    rw [e] at h
    obtain ⟨⟨i, j, _, _, hi, hj, hn⟩, _⟩ := h
    exact ⟨fun h' => (nomatch h'), fun h' => absurd (by rw [hn]) (h' l[i] (List.getElem_mem hi) l'[j] (List.getElem_mem hj))⟩
theorem met_comm (a b : S40) : met a b = met b a := by
  have h : meetSt a.f1 b.f1 = none ↔ meetSt b.f1 a.f1 = none := by
    rw [meet_none', meet_none']
    constructor
    · intro h x hx y hy hn
      exact h y hy x hx (by rw [bNear_comm]; exact hn)
    · intro h x hx y hy hn
      exact h y hy x hx (by rw [bNear_comm]; exact hn)
  unfold met
  cases e : meetSt a.f1 b.f1 with
  | none => rw [h.1 e]
  | some t =>
    cases e' : meetSt b.f1 a.f1 with
    | none => rw [h.2 e'] at e; cases e
    | some _ => rfl
theorem mkC_names {s s' : ByteArray} {st : St} (h : st.isSome = true) : (mkC (enc s s' st)).f0 = s ∧ (mkC (enc s s' st)).f1 = s' := by
  cases st with
  | none => cases h
  | some t => exact ⟨rfl, rfl⟩
theorem rowL_yes {t u : S40} (r : List S40) (h : met t u = true) : rowL t (u :: r) = mkC (enc t.f0 u.f0 (meetSt t.f1 u.f1)) :: rowL t r := by
  unfold met at h
  rw [rowL, if_pos h]
theorem rowL_no {t u : S40} (r : List S40) (h : ¬ met t u = true) : rowL t (u :: r) = rowL t r := by
  unfold met at h
  rw [rowL, if_neg h]
theorem rowL_append (t : S40) (b : List S40) : ∀ a : List S40, rowL t (a ++ b) = rowL t a ++ rowL t b
  | [] => rfl
  | u :: r => by
    by_cases h : met t u = true
    · rw [List.cons_append, rowL_yes _ h, rowL_yes _ h, rowL_append t b r, List.cons_append]
    · rw [List.cons_append, rowL_no _ h, rowL_no _ h, rowL_append t b r]
theorem row_hit0 {t : S40} {s : ByteArray} (ht : t.f0.toList ≠ s.toList) : ∀ {r : List S40}, (∀ u ∈ r, u.f0.toList ≠ s.toList) → (rowL t r).countP (hit s) = 0
  | [], _ => rfl
  | u :: r, h => by
    have ih := row_hit0 ht (r := r) (fun v hv => h v (by simp [hv]))
    by_cases hm : met t u = true
    · have hn := mkC_names (s := t.f0) (s' := u.f0) hm
      rw [rowL_yes _ hm, List.countP_cons_of_neg, ih]
      simp only [hit, hn.1, hn.2, Bool.or_eq_true, decide_eq_true_eq]
      exact fun hh => hh.elim ht (h u (by simp))
    · rw [rowL_no _ hm, ih]
theorem row_hit (x : S40) : ∀ r : List S40, (rowL x r).countP (hit x.f0) = r.countP (met x) ∧ (rowL x r).length = r.countP (met x)
  | [] => ⟨rfl, rfl⟩
  | u :: r => by
    have ih := row_hit x r
    by_cases hm : met x u = true
    · have hn := mkC_names (s := x.f0) (s' := u.f0) hm
      rw [rowL_yes _ hm, List.countP_cons_of_pos, List.countP_cons_of_pos hm, List.length_cons, ih.1, ih.2]
      · exact ⟨rfl, rfl⟩
      · simp only [hit, hn.1, decide_true, Bool.true_or]
    · rw [rowL_no _ hm, List.countP_cons_of_neg hm, ih.1, ih.2]
      exact ⟨rfl, rfl⟩
theorem all_hit0 {s : ByteArray} : ∀ {l : List S40}, (∀ u ∈ l, u.f0.toList ≠ s.toList) → (allL l).countP (hit s) = 0
  | [], _ => rfl
  | t :: r, h => by
    rw [allL, List.countP_append, row_hit0 (h t (by simp)) (fun u hu => h u (by simp [hu])), all_hit0 (fun u hu => h u (by simp [hu]))]
theorem all_split {x : S40} {post : List S40} (hq : ∀ u ∈ post, u.f0.toList ≠ x.f0.toList) : ∀ {pre : List S40}, (∀ u ∈ pre, u.f0.toList ≠ x.f0.toList) →
    (allL (pre ++ x :: post)).countP (hit x.f0) = pre.countP (met x) + post.countP (met x) ∧ (allL (pre ++ x :: post)).length = (allL (pre ++ post)).length + (pre.countP (met x) + post.countP (met x))
  | [], _ => by
    have h := row_hit x post
    rw [List.nil_append, List.nil_append, allL, List.countP_append, List.length_append, h.1, h.2, all_hit0 hq, List.countP_nil]
    omega
  | t :: pre, hp => by
    have ht := hp t (by simp)
    have hp' : ∀ u ∈ pre, u.f0.toList ≠ x.f0.toList := fun u hu => hp u (by simp [hu])
    have ih := all_split hq hp'
    rw [List.cons_append, List.cons_append, allL, allL, List.countP_append, List.length_append, List.length_append, ih.1, ih.2, rowL_append, rowL_append, List.countP_append, List.length_append, List.length_append, row_hit0 ht hp']
    have hx : met x t = met t x := met_comm x t
    by_cases hm : met t x = true
    · have hn := mkC_names (s := t.f0) (s' := x.f0) hm
      rw [rowL_yes _ hm, List.countP_cons_of_pos, row_hit0 ht hq, List.countP_cons_of_pos (by rw [hx]; exact hm), List.length_cons]
      · omega
      · simp only [hit, hn.2, decide_true, Bool.or_true]
    · rw [rowL_no _ hm, row_hit0 ht hq, List.countP_cons_of_neg (by rw [hx]; exact hm)]
      omega
theorem with_append (s : ByteArray) (l : List S95) (b : List S40) : ∀ a : List S40, withL s l (a ++ b) = withL s l a ++ withL s l b
  | [] => rfl
  | t :: r => by
    rw [List.cons_append]
    by_cases h : (meetSt l t.f1).isSome = true ∧ t.f0.toList ≠ s.toList
    · rw [withL, withL, if_pos h, if_pos h, with_append s l b r, List.cons_append]
    · rw [withL, withL, if_neg h, if_neg h, with_append s l b r]
theorem with_len' {x : S40} : ∀ {r : List S40}, (∀ u ∈ r, u.f0.toList ≠ x.f0.toList) → (withL x.f0 x.f1 r).length = r.countP (met x)
  | [], _ => rfl
  | t :: r, h => by
    have ih := with_len' (x := x) (r := r) (fun u hu => h u (by simp [hu]))
    by_cases hm : met x t = true
    · rw [withL, if_pos ⟨hm, h t (by simp)⟩, List.countP_cons_of_pos hm, List.length_cons, ih]
    · rw [withL, if_neg (fun hh => hm hh.1), List.countP_cons_of_neg hm, ih]
/-- How many clashes one is in: as many as it comes too near; without it there are so many less. -/
theorem taken {L : List S40} (h : skyOk L = true) {i : Nat} (hi : i < L.length) :
    (withL L[i].f0 L[i].f1 L).length = (allL L).countP (hit L[i].f0) ∧ (allL L).length = (allL (L.eraseIdx i)).length + (allL L).countP (hit L[i].f0) := by
  have hs : L = L.take i ++ L[i] :: L.drop (i + 1) := by rw [← List.drop_eq_getElem_cons hi, List.take_append_drop]
  have hp := skyPw h
  rw [hs, List.pairwise_append] at hp
  obtain ⟨_, h2, h3⟩ := hp
  have hq := fun u hu => (lt_ne ((List.pairwise_cons.1 h2).1 u hu)).symm
  have hp' := fun u hu => lt_ne (h3 u hu L[i] (.head _))
  have hm := all_split (x := L[i]) hq hp'
  rw [← hs] at hm
  have hw : (withL L[i].f0 L[i].f1 (L.take i ++ L[i] :: L.drop (i + 1))).length = (L.take i).countP (met L[i]) + (L.drop (i + 1)).countP (met L[i]) := by
    rw [with_append, List.length_append, with_len' hp', withL, if_neg (fun hh => hh.2 rfl), with_len' hq]
  rw [← hs] at hw
  rw [List.eraseIdx_eq_take_drop_succ]
  omega
end Go.Proofs.Ytdbomnhdpniigaa.Q
