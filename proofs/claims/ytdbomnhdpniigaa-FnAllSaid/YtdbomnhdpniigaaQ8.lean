/- The draws of two tubes one within the other, and of a sky. No condition beside what is typed. -/
import Derived.Test.YtdbomnhdpniigaaQ4
import Derived.Test.YtdbomnhdpniigaaQ7
namespace Go.Proofs.Ytdbomnhdpniigaa.Q
open Go.RowKit Go.Proofs.Ytdbomnhdpniigaa.PA Go.Proofs.YtdbomnhdpniigaaW.PrintWords Go.Proofs.YtdbomnhdpniigaaW.PrintLast Go.Proofs.YtdbomnhdpniigaaW.PrintMore

/-- It comes to something. -/
def Any4 (F : Nat → Option (ByteArray × List S95 × ByteArray × List S95)) : Prop := ∃ (s : ByteArray) (l : List S95) (s' : ByteArray) (l' : List S95), Ev F (s, l, s', l')
theorem Any4.lift {F G : Nat → Option (ByteArray × List S95 × ByteArray × List S95)} (h : Any4 F) (e : ∀ r, Ev F r → Ev G r) : Any4 G := by
  obtain ⟨s, l, s', l', h⟩ := h
  exact ⟨s, l, s', l', e _ h⟩
theorem copy_ev (s : ByteArray) (l : List S95) (hl : l.length ≤ 100) : spec_l2Copy.f s l = some (s, l) := by
  unfold spec_l2Copy.f
  simp only [Option.bind_some, List.nil_append, List.length_nil, Nat.zero_add]
  rw [if_pos (by omega)]
/-! ### A sky -/
def Sk (l : List S40) : Prop := ∀ t ∈ l, t.f0.size ≤ 20 ∧ t.f1.length ≤ 40
theorem Sk.add {l : List S40} (h : Sk l) {t : S40} (h0 : t.f0.size ≤ 20) (h1 : t.f1.length ≤ 40) : Sk (l ++ [t]) := by
  intro x hx
  rcases List.mem_append.1 hx with hx | hx
  · exact h x hx
  · rw [List.mem_singleton] at hx
    subst hx
    exact ⟨h0, h1⟩
def Dy (F : Nat → Option (List S40 × Int)) (p c : Int) : Prop := ∃ (l : List S40) (q : Int), Ev F (l, q) ∧ Sk l ∧ p ≤ q ∧ q ≤ p + c
theorem Dy.lift {F G : Nat → Option (List S40 × Int)} {p c p' c' : Int} (h : Dy F p c) (h1 : p' ≤ p) (h2 : p + c ≤ p' + c') (e : ∀ r, Ev F r → Ev G r) : Dy G p' c' := by
  obtain ⟨l, q, h, a, b, d⟩ := h
  exact ⟨l, q, e _ h, a, by omega, by omega⟩
theorem str1 (x : Int) : (strOfNums [x]).size = 1 := strOfNums_size [x]
theorem dec_ev {n : Int} (h0 : 0 ≤ n) (h1 : n ≤ 99) : ∃ s, Ev (fun k => spec_l7Dec.f k n) s ∧ s.size ≤ 2 := by
  by_cases h : n < 10
  · exact ⟨_, Ev.step (fun k => spec_l7Dec.f.eq_2 ..) (Ev.pos h (Ev.now _)), by rw [str1]; omega⟩
  · have hd : wrap64 (Int.tdiv n 10) = n / 10 := by
      rw [Int.tdiv_eq_ediv_of_nonneg h0, wr (by omega) (by omega)]
    have hs : Ev (fun k => spec_l7Dec.f k (n / 10)) (strOfNums [(wrap64 (48 + n / 10)) % 256]) := Ev.step (fun k => spec_l7Dec.f.eq_2 ..) (Ev.pos (by omega) (Ev.now _))
    rw [← hd] at hs
    refine ⟨_, Ev.step (fun k => spec_l7Dec.f.eq_2 ..) (Ev.neg h (Ev.bind hs (Ev.bind (Ev.now _) (Ev.pos ?_ (Ev.now _))))), ?_⟩
    · simp only [str1]
      omega
    · simp only [ByteArray.size_append, str1]
      omega
theorem sky_l1 {b : List Int} (hb : Bs b) (x : Int) (hx : x ≤ 24) (d : Nat) : ∀ (L : List S40) (p : Int), Sk L → 24 - L.length = d → 0 ≤ p → p + 2000 * d ≤ 500000 → Dy (fun k => spec_l2Sky.l1 k L x b p) p (2000 * d) := by
  induction d with
  | zero =>
    intro L p hL hd h0 h1
    exact ⟨L, p, Ev.step (fun k => spec_l2Sky.l1.eq_2 ..) (Ev.neg (by omega) (Ev.now _)), hL, by omega, by omega⟩
  | succ d ih =>
    intro L p hL hd h0 h1
    by_cases hlt : (L.length : Int) < x
    · have hw : wrap64 (10 + (L.length : Int)) = 10 + (L.length : Int) := wr (by omega) (by omega)
      obtain ⟨t, ht, hts⟩ := dec_ev (n := 10 + (L.length : Int)) (by omega) (by omega)
      rw [← hw] at ht
      obtain ⟨l, q, hl, hll, hq, hq'⟩ := tube_ev hb ((⟨#[102]⟩ : ByteArray) ++ t) (p := p) (by omega) (by omega)
      have hsz : ((⟨#[102]⟩ : ByteArray) ++ t).size ≤ 20 := by
        rw [ByteArray.size_append]
        have : (⟨#[102]⟩ : ByteArray).size = 1 := rfl
        omega
      exact (ih _ q (hL.add (t := ⟨(⟨#[102]⟩ : ByteArray) ++ t, l⟩) hsz hll) (by simp; omega) (by omega) (by omega)).lift (by omega) (by omega) (fun z hz => Ev.step (fun k => spec_l2Sky.l1.eq_2 ..) (Ev.pos hlt (Ev.bind ht (Ev.pos (by omega) (Ev.bind hl (Ev.pos (by omega) hz))))))
    · exact ⟨L, p, Ev.step (fun k => spec_l2Sky.l1.eq_2 ..) (Ev.neg hlt (Ev.now _)), hL, by omega, by omega⟩
theorem sky_l0 {b : List Int} (hb : Bs b) (N : List ByteArray) (hN : ∀ x ∈ N, x.size ≤ 20) (hn : N.length ≤ 10) (d : Nat) : ∀ (i : Nat) (L : List S40) (p : Int), Sk L → L.length ≤ i → i ≤ N.length → N.length - i = d → 0 ≤ p → p + 3000 * d ≤ 300000 →
    Dy (fun k => spec_l2Sky.l0 k L N (i : Int) b p) p (3000 * d + 60000) := by
  induction d with
  | zero =>
    intro i L p hL hLi hi hd h0 h1
    obtain ⟨r, hr, _⟩ := pick_ev hb h0 (by omega) 30
    by_cases c0 : r = 0
    · obtain ⟨u, hu, u0, u1⟩ := pick_ev hb (p := p + 1) (by omega) (by omega) 2
      have u2 := u1 (by omega)
      have hw : wrap64 (24 - u) = 24 - u := wr (by omega) (by omega)
      refine (sky_l1 hb (wrap64 (24 - u)) (by omega) _ L (p + 1 + 1) hL rfl (by omega) (by omega)).lift (by omega) (by omega) (fun z hz => Ev.step (fun k => spec_l2Sky.l0.eq_2 ..) (Ev.neg (by omega) (Ev.bind hr (Ev.pos c0 (Ev.bind hu hz)))))
    · exact ⟨L, p + 1, Ev.step (fun k => spec_l2Sky.l0.eq_2 ..) (Ev.neg (by omega) (Ev.bind hr (Ev.neg c0 (Ev.now _)))), hL, by omega, by omega⟩
  | succ d ih =>
    intro i L p hL hLi hi hd h0 h1
    have hlt : i < N.length := by omega
    obtain ⟨r, hr, _⟩ := pick_ev hb h0 (by omega) 4
    have hw : wrap64 ((i : Int) + 1) = ((i + 1 : Nat) : Int) := w64 hlt (by omega)
    by_cases c0 : r > 0
    · have hrd : rdOf ByteArray.empty N (i : Int) ∈ N := by
        unfold rdOf
        have e : ((i : Int)).toNat = i := rfl
        rw [e, List.getD_eq_getElem?_getD, List.getElem?_eq_getElem hlt]
        exact List.getElem_mem hlt
      obtain ⟨l, q, hl, hll, hq, hq'⟩ := tube_ev hb (rdOf ByteArray.empty N (i : Int)) (p := p + 1) (by omega) (by omega)
      refine (ih (i + 1) _ q (hL.add (t := ⟨rdOf ByteArray.empty N (i : Int), l⟩) (hN _ hrd) hll) (by simp; omega) (by omega) (by omega) (by omega) (by omega)).lift (by omega) (by omega) (fun z hz => Ev.step (fun k => spec_l2Sky.l0.eq_2 ..) (Ev.pos (by omega) (Ev.bind hr (Ev.pos c0 (Ev.pos (by omega) (Ev.bind hl (Ev.pos (by omega) (by rw [hw]; exact hz))))))))
    · exact (ih (i + 1) L (p + 1) hL (by omega) (by omega) (by omega) (by omega) (by omega)).lift (by omega) (by omega) (fun z hz => Ev.step (fun k => spec_l2Sky.l0.eq_2 ..) (Ev.pos (by omega) (Ev.bind hr (Ev.neg c0 (by rw [hw]; exact hz)))))
theorem sky_ev {b : List Int} (hb : Bs b) {p : Int} (h0 : 0 ≤ p) (h1 : p ≤ 200000) : Dy (fun k => spec_l2Sky.f k b p) p 80000 := by
  unfold spec_l2Sky.f
  refine (sky_l0 hb [⟨#[97, 49]⟩, ⟨#[98]⟩, ⟨#[99, 45, 99]⟩, ⟨#[100]⟩, ⟨#[101, 57]⟩] ?_ (by simp) 5 0 [] p (fun t ht => by cases ht) (by simp) (by simp) rfl h0 (by omega)).lift (by omega) (by omega) (fun z hz => hz)
  intro x hx
  simp only [List.mem_cons, List.not_mem_nil, or_false] at hx
  rcases hx with rfl | rfl | rfl | rfl | rfl
  · show 2 ≤ 20; omega
  · show 1 ≤ 20; omega
  · show 3 ≤ 20; omega
  · show 1 ≤ 20; omega
  · show 2 ≤ 20; omega
theorem anySky_ev {b : List Int} (hb : Bs b) {p : Int} (h0 : 0 ≤ p) (h1 : p ≤ 200000) : ∃ (L : List S40) (q : Int), Ev (fun k => spec_l2AnySky.f k b p) (L, q) ∧ p ≤ q ∧ q ≤ p + 90000 := by
  unfold spec_l2AnySky.f
  obtain ⟨L, q, hL, hs, hq, hq'⟩ := sky_ev hb h0 h1
  have no : ∀ u : Int, Ev (fun k => spec_l2AnySky.j0 k L false b u) (L, u) := fun u => Ev.step (fun k => spec_l2AnySky.j0.eq_2 ..) (Ev.neg (by simp) (Ev.now _))
  by_cases hz : (L.length : Int) > 0
  · obtain ⟨r, hr, _⟩ := pick_ev hb (p := q) (by omega) (by omega) 16
    by_cases c0 : r = 0
    · obtain ⟨u, hu, u0, u1⟩ := pick_ev hb (p := q + 1) (by omega) (by omega) (L.length : Int)
      have u2 := u1 (by omega)
      have hm : rd_T40 L u ∈ L := by
        unfold rd_T40
        have hlt : u.toNat < L.length := by omega
        rw [List.getD_eq_getElem?_getD, List.getElem?_eq_getElem hlt]
        exact List.getElem_mem hlt
      obtain ⟨n, l, q', hz', _, _, h4, h5⟩ := spoilt_ev hb (rd_T40 L u).f0 (rd_T40 L u).f1 (hs _ hm).1 (hs _ hm).2 (p := q + 1 + 1) (by omega) (by omega)
      refine ⟨L.set u.toNat ⟨n, l⟩, q', Ev.bind hL (Ev.pos hz (Ev.bind hr ?_)), by omega, by omega⟩
      rw [show (r == 0) = true by simp [c0]]
      exact Ev.step (fun k => spec_l2AnySky.j0.eq_2 ..) (Ev.pos rfl (Ev.bind hu (Ev.pos u0 (Ev.pos u2 (Ev.bind hz' (Ev.now _))))))
    · refine ⟨L, q + 1, Ev.bind hL (Ev.pos hz (Ev.bind hr ?_)), by omega, by omega⟩
      rw [show (r == 0) = false by simp [c0]]
      exact no _
  · exact ⟨L, q, Ev.bind hL (Ev.neg hz (no _)), by omega, by omega⟩
end Go.Proofs.Ytdbomnhdpniigaa.Q
