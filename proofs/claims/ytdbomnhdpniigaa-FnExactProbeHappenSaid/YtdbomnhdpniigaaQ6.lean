/- The draws of tubes. No condition beside what is typed. -/
import Derived.Test.YtdbomnhdpniigaaQ5
namespace Go.Proofs.Ytdbomnhdpniigaa.Q
open Go.RowKit Go.Proofs.Ytdbomnhdpniigaa.PA Go.Proofs.YtdbomnhdpniigaaW.PrintWords Go.Proofs.YtdbomnhdpniigaaW.PrintLast Go.Proofs.YtdbomnhdpniigaaW.PrintMore

/-- It comes to the name s and a list of at most m boxes; the reader goes from p on, at most c places. -/
def Dr (F : Nat → Option (ByteArray × List S95 × Int)) (s : ByteArray) (m : Nat) (p c : Int) : Prop := ∃ (l : List S95) (q : Int), Ev F (s, l, q) ∧ l.length ≤ m ∧ p ≤ q ∧ q ≤ p + c
theorem Dr.more {F : Nat → Option (ByteArray × List S95 × Int)} {s : ByteArray} {m : Nat} {p c p' c' : Int} (h : Dr F s m p c) (h1 : p' ≤ p) (h2 : p + c ≤ p' + c') : Dr F s m p' c' := by
 obtain ⟨l, q, h, a, b, d⟩ := h
 exact ⟨l, q, h, a, by omega, by omega⟩
theorem Dr.lift {F G : Nat → Option (ByteArray × List S95 × Int)} {s : ByteArray} {m : Nat} {p c : Int} (h : Dr F s m p c) (e : ∀ r, Ev F r → Ev G r) : Dr G s m p c := by
 obtain ⟨l, q, h, a⟩ := h
 exact ⟨l, q, e _ h, a⟩
theorem tube_l1 {b : List Int} (hb : Bs b) (s : ByteArray) (d : Nat) : ∀ (p : Int) (l : List S95), l.length ≤ 40 → 40 - l.length = d → 0 ≤ p → p + 20 * d ≤ 800000 → Dr (fun k => spec_l2Tube.l1 k b p s l) s 40 p (20 * d + 1) := by
 induction d with
 | zero =>
  intro p l h1 h2 h3 h4
  obtain ⟨r, hr, r0, r1⟩ := pick_ev hb h3 (by omega) 2
  have r2 := r1 (by omega)
  refine ⟨l, p + 1, Ev.step (g := fun k => spec_l2Tube.l1 k b p s l) (fun k => spec_l2Tube.l1.eq_2 ..) (Ev.bind hr (Ev.neg ?_ (Ev.now _))), h1, by omega, by omega⟩
  show ¬ (l.length : Int) < wrap64 (40 - r)
  rw [wr (by omega) (by omega)]
  omega
 | succ d ih =>
  intro p l h1 h2 h3 h4
  obtain ⟨r, hr, r0, r1⟩ := pick_ev hb h3 (by omega) 2
  have r2 := r1 (by omega)
  by_cases hlt : (l.length : Int) < wrap64 (40 - r)
  ·obtain ⟨x0, x1, x2, x3, x4, x5, q, hx, hq, hq'⟩ := box_ev hb (p := p + 1) (by omega) (by omega)
   refine ((ih q (l ++ [⟨x0, x1, x2, x3, x4, x5⟩]) (by simp; omega) (by simp; omega) (by omega) (by omega)).more (p' := p) (c' := 20 * (d + 1 : Nat) + 1) (by omega) (by omega)).lift (fun z hz => ?_)
   exact Ev.step (g := fun k => spec_l2Tube.l1 k b p s l) (fun k => spec_l2Tube.l1.eq_2 ..) (Ev.bind hr (Ev.pos hlt (Ev.bind hx (Ev.pos (by omega) hz))))
  ·exact ⟨l, p + 1, Ev.step (g := fun k => spec_l2Tube.l1 k b p s l) (fun k => spec_l2Tube.l1.eq_2 ..) (Ev.bind hr (Ev.neg hlt (Ev.now _))), h1, by omega, by omega⟩
/-- What l0 is to do from n boxes to go. -/
def TubeAt (b : List Int) (s : ByteArray) (n : Nat) : Prop := ∀ (p : Int) (l : List S95) (x0 x1 x2 x3 x4 x5 : Int), l.length + n ≤ 40 → 0 ≤ p → p + 40 * n ≤ 700000 → Dr (fun k => spec_l2Tube.l0 k (n : Int) b p s l x0 x1 x2 x3 x4 x5) s 40 p (40 * n + 1000)
theorem pred {n : Nat} (h : n ≤ 100) : wrap64 (((n + 1 : Nat) : Int) - 1) = (n : Int) := by
 rw [wr (by omega) (by omega)]
 omega
theorem tube_j2 {b : List Int} (hb : Bs b) {s : ByteArray} {n : Nat} (hn : n ≤ 40) (ih : TubeAt b s n) (p : Int) (l : List S95) (x0 x1 x2 x3 x4 x5 : Int) (hl : l.length + n ≤ 40) (h0 : 0 ≤ p) (h1 : p + 2 + 40 * n ≤ 700000) : Dr (fun k => spec_l2Tube.j2 k ((n + 1 : Nat) : Int) b p s l x0 x1 x2 x3 x4 x5) s 40 p (40 * n + 1002) := by
 by_cases hc : wrap64 (x5 + 20) < 10000
 ·obtain ⟨r, hr, _⟩ := pick_ev hb h0 (by omega) 4
  obtain ⟨r', hr', _⟩ := pick_ev hb (p := p + 1) (by omega) (by omega) 6
  by_cases ht : wrap64 (wrap64 (x5 + 1) + r') < wrap64 (wrap64 (x4 + 1) + r)
  ·refine ((ih (p + 1 + 1) l x0 x1 x2 x3 (wrap64 (wrap64 (x4 + 1) + r)) (wrap64 (wrap64 (x4 + 1) + r)) hl (by omega) (by omega)).more (p' := p) (c' := 40 * n + 1002) (by omega) (by omega)).lift (fun z hz => ?_)
   exact Ev.step (g := fun k => spec_l2Tube.j2 k ((n + 1 : Nat) : Int) b p s l x0 x1 x2 x3 x4 x5) (fun k => spec_l2Tube.j2.eq_2 ..) (Ev.pos hc (Ev.bind hr (Ev.bind hr' (Ev.pos ht (by rw [pred (by omega)]; exact hz)))))
  ·refine ((ih (p + 1 + 1) l x0 x1 x2 x3 (wrap64 (wrap64 (x4 + 1) + r)) (wrap64 (wrap64 (x5 + 1) + r')) hl (by omega) (by omega)).more (p' := p) (c' := 40 * n + 1002) (by omega) (by omega)).lift (fun z hz => ?_)
   exact Ev.step (g := fun k => spec_l2Tube.j2 k ((n + 1 : Nat) : Int) b p s l x0 x1 x2 x3 x4 x5) (fun k => spec_l2Tube.j2.eq_2 ..) (Ev.pos hc (Ev.bind hr (Ev.bind hr' (Ev.neg ht (by rw [pred (by omega)]; exact hz)))))
 ·refine ((ih p l x0 x1 x2 x3 x4 x5 hl (by omega) (by omega)).more (p' := p) (c' := 40 * n + 1002) (by omega) (by omega)).lift (fun z hz => ?_)
  exact Ev.step (g := fun k => spec_l2Tube.j2 k ((n + 1 : Nat) : Int) b p s l x0 x1 x2 x3 x4 x5) (fun k => spec_l2Tube.j2.eq_2 ..) (Ev.neg hc (by rw [pred (by omega)]; exact hz))
theorem tube_j1 {b : List Int} (hb : Bs b) {s : ByteArray} {n : Nat} (hn : n ≤ 40) (ih : TubeAt b s n) (x8 x9 : Int) (t : Bool) (p : Int) (l : List S95) (x0 x1 x2 x3 x4 x5 : Int) (hl : l.length + n ≤ 40) (h0 : 0 ≤ p) (h1 : p + 2 + 40 * n ≤ 700000) : Dr (fun k => spec_l2Tube.j1 k ((n + 1 : Nat) : Int) x8 x9 t b p s l x0 x1 x2 x3 x4 x5) s 40 p (40 * n + 1002) := by
 cases t with
 | true => exact (tube_j2 hb hn ih p l x8 x9 x2 x3 x4 x5 hl h0 h1).lift (fun z hz => Ev.step (g := fun k => spec_l2Tube.j1 k ((n + 1 : Nat) : Int) x8 x9 true b p s l x0 x1 x2 x3 x4 x5) (fun k => by simp only [spec_l2Tube.j1]; rw [if_pos trivial]) hz)
 | false => exact (tube_j2 hb hn ih p l x0 x1 x2 x3 x4 x5 hl h0 h1).lift (fun z hz => Ev.step (g := fun k => spec_l2Tube.j1 k ((n + 1 : Nat) : Int) x8 x9 false b p s l x0 x1 x2 x3 x4 x5) (fun k => by simp only [spec_l2Tube.j1]; rw [if_neg (by simp)]) hz)
theorem tube_l0 {b : List Int} (hb : Bs b) (s : ByteArray) : ∀ n : Nat, n ≤ 40 → TubeAt b s n
 | 0, _ => by
  intro p l x0 x1 x2 x3 x4 x5 hl h0 h1
  obtain ⟨r, hr, _⟩ := pick_ev hb h0 (by omega) 40
  by_cases hz : r = 0
  ·refine ((tube_l1 hb s (40 - l.length) (p + 1) l (by omega) rfl (by omega) (by omega)).more (p' := p) (c' := 40 * ((0 : Nat) : Int) + 1000) (by omega) (by omega)).lift (fun z hz' => ?_)
   exact Ev.step (g := fun k => spec_l2Tube.l0 k ((0 : Nat) : Int) b p s l x0 x1 x2 x3 x4 x5) (fun k => spec_l2Tube.l0.eq_2 ..) (Ev.neg (by omega) (Ev.bind hr (Ev.pos hz hz')))
  ·exact ⟨l, p + 1, Ev.step (g := fun k => spec_l2Tube.l0 k ((0 : Nat) : Int) b p s l x0 x1 x2 x3 x4 x5) (fun k => spec_l2Tube.l0.eq_2 ..) (Ev.neg (by omega) (Ev.bind hr (Ev.neg hz (Ev.now _)))), by omega, by omega, by omega⟩
 | n + 1, hn => by
  intro p l x0 x1 x2 x3 x4 x5 hl h0 h1
  have ih := tube_l0 hb s n (by omega)
  have hu : ∀ {z}, Ev (fun k => (some (l ++ [(⟨x0, x1, x2, x3, x4, x5⟩ : S95)] : List S95)).bind fun y => (spec_l1Rd_pick.f k b p 10).bind fun t => if t.1 = 0 then ((spec_l1DrawBox.f k b t.2).bind fun c => spec_l2Tube.l0 k (n : Int) b c.2.2.2.2.2.2 s y c.1 c.2.1 c.2.2.1 c.2.2.2.1 c.2.2.2.2.1 c.2.2.2.2.2.1)
    else ((spec_l1Rd_pick.f k b t.2 3).bind fun u => (spec_l1Rd_pick.f k b u.2 3).bind fun v => (spec_l1In.f (wrap64 (wrap64 (x0 + u.1) - 1)) 0 15).bind fun i => if i = true then ((spec_l1In.f (wrap64 (wrap64 (x1 + v.1) - 1)) 0 15).bind fun j => spec_l2Tube.j1 k ((n + 1 : Nat) : Int) (wrap64 (wrap64 (x0 + u.1) - 1)) (wrap64 (wrap64 (x1 + v.1) - 1)) j b v.2 s y x0 x1 x2 x3 x4 x5)
     else spec_l2Tube.j1 k ((n + 1 : Nat) : Int) (wrap64 (wrap64 (x0 + u.1) - 1)) (wrap64 (wrap64 (x1 + v.1) - 1)) false b v.2 s y x0 x1 x2 x3 x4 x5)) z → Ev (fun k => spec_l2Tube.l0 k ((n + 1 : Nat) : Int) b p s l x0 x1 x2 x3 x4 x5) z := fun hz =>
   Ev.step (g := fun k => spec_l2Tube.l0 k ((n + 1 : Nat) : Int) b p s l x0 x1 x2 x3 x4 x5) (fun k => by simp only [spec_l2Tube.l0]; rw [if_pos (by omega), if_pos (by omega), pred (by omega)]) hz
  obtain ⟨r, hr, _⟩ := pick_ev hb h0 (by omega) 10
  have hl' : (l ++ [(⟨x0, x1, x2, x3, x4, x5⟩ : S95)]).length + n ≤ 40 := by simp; omega
  by_cases hr0 : r = 0
  ·obtain ⟨c0, c1, c2, c3, c4, c5, q, hx, hq, hq'⟩ := box_ev hb (p := p + 1) (by omega) (by omega)
   refine ((ih q (l ++ [⟨x0, x1, x2, x3, x4, x5⟩]) c0 c1 c2 c3 c4 c5 hl' (by omega) (by omega)).more (p' := p) (c' := 40 * ((n + 1 : Nat) : Int) + 1000) (by omega) (by omega)).lift (fun z hz => ?_)
   exact hu (Ev.bind (Ev.now _) (Ev.bind hr (Ev.pos hr0 (Ev.bind hx hz))))
  ·obtain ⟨u, hu', _⟩ := pick_ev hb (p := p + 1) (by omega) (by omega) 3
   obtain ⟨v, hv', _⟩ := pick_ev hb (p := p + 1 + 1) (by omega) (by omega) 3
   by_cases hi : decide (0 ≤ wrap64 (wrap64 (x0 + u) - 1) ∧ wrap64 (wrap64 (x0 + u) - 1) ≤ 15) = true
   ·refine ((tube_j1 hb (by omega) ih (wrap64 (wrap64 (x0 + u) - 1)) (wrap64 (wrap64 (x1 + v) - 1)) (decide (0 ≤ wrap64 (wrap64 (x1 + v) - 1) ∧ wrap64 (wrap64 (x1 + v) - 1) ≤ 15)) (p + 1 + 1 + 1) (l ++ [⟨x0, x1, x2, x3, x4, x5⟩]) x0 x1 x2 x3 x4 x5 hl' (by omega) (by omega)).more (p' := p) (c' := 40 * ((n + 1 : Nat) : Int) + 1000) (by omega) (by omega)).lift (fun z hz => ?_)
    exact hu (Ev.bind (Ev.now _) (Ev.bind hr (Ev.neg hr0 (Ev.bind hu' (Ev.bind hv' (Ev.bind (Ev.is (l1In_eq _ _ _)) (Ev.pos hi (Ev.bind (Ev.is (l1In_eq _ _ _)) hz))))))))
   ·refine ((tube_j1 hb (by omega) ih (wrap64 (wrap64 (x0 + u) - 1)) (wrap64 (wrap64 (x1 + v) - 1)) false (p + 1 + 1 + 1) (l ++ [⟨x0, x1, x2, x3, x4, x5⟩]) x0 x1 x2 x3 x4 x5 hl' (by omega) (by omega)).more (p' := p) (c' := 40 * ((n + 1 : Nat) : Int) + 1000) (by omega) (by omega)).lift (fun z hz => ?_)
    exact hu (Ev.bind (Ev.now _) (Ev.bind hr (Ev.neg hr0 (Ev.bind hu' (Ev.bind hv' (Ev.bind (Ev.is (l1In_eq _ _ _)) (Ev.neg hi hz)))))))
theorem tube_ev {b : List Int} (hb : Bs b) (s : ByteArray) {p : Int} (h0 : 0 ≤ p) (h1 : p ≤ 600000) : Dr (fun k => spec_l2Tube.f k b p s) s 40 p 2000 := by
 obtain ⟨c0, c1, c2, c3, c4, c5, q, hx, hq, hq'⟩ := box_ev hb (p := p) (by omega) (by omega)
 obtain ⟨r, hr, r0, r1⟩ := pick_ev hb (p := q) (by omega) (by omega) 7
 have r2 := r1 (by omega)
 obtain ⟨n, rfl⟩ := Int.eq_ofNat_of_zero_le r0
 refine ((tube_l0 hb s n (by omega) (q + 1) [] c0 c1 c2 c3 c4 c5 (by simp; omega) (by omega) (by omega)).more (p' := p) (c' := 2000) (by omega) (by omega)).lift (fun z hz => ?_)
 unfold spec_l2Tube.f
 exact Ev.bind hx (Ev.bind hr hz)
theorem many_ev (n : Nat) : ∀ x acc : ByteArray, n ≤ 1000 → x.size * n + acc.size ≤ 1000000 → ∃ r, Ev (fun k => spec_l1Many.l0 k x (n : Int) acc) r ∧ r.size ≤ acc.size + x.size * n := by
 induction n using Nat.strongRecOn with
 | ind n ih =>
  intro x acc hn h
  by_cases h0 : n = 0
  ·subst h0
   exact ⟨acc, Ev.step (g := fun k => spec_l1Many.l0 k x ((0 : Nat) : Int) acc) (fun k => spec_l1Many.l0.eq_2 ..) (Ev.neg (by omega) (Ev.now _)), by omega⟩
  ·have hd : wrap64 (Int.tdiv (n : Int) 2) = ((n / 2 : Nat) : Int) := by
    rw [Int.tdiv_eq_ediv_of_nonneg (by omega), wr (by omega) (by omega)]
    omega
   have hxx : (x ++ x).size = x.size + x.size := by simp
   have hxa : (acc ++ x).size = acc.size + x.size := by simp
   have hm : x.size ≤ x.size * n := Nat.le_mul_of_pos_right _ (by omega)
   have h2 : 2 * (x.size * (n / 2)) ≤ x.size * n := by
    rw [Nat.mul_left_comm]
    exact Nat.mul_le_mul_left _ (by omega)
   have h4 : (x ++ x).size * (n / 2) = 2 * (x.size * (n / 2)) := by rw [hxx, Nat.add_mul]; omega
   by_cases ho : Int.tmod (n : Int) 2 = 1
   ·have ho' : n % 2 = 1 := by
     rw [Int.tmod_eq_emod_of_nonneg (by omega)] at ho
     omega
    have h5 : 2 * (x.size * (n / 2)) + x.size = x.size * n := by
     have e : n = 2 * (n / 2) + 1 := by omega
     conv => rhs; rw [e]
     rw [Nat.mul_add, Nat.mul_one, Nat.mul_left_comm]
    obtain ⟨r, hr, hs⟩ := ih (n / 2) (by omega) (x ++ x) (acc ++ x) (by omega) (by rw [h4, hxa]; omega)
    rw [h4, hxa] at hs
    refine ⟨r, Ev.step (g := fun k => spec_l1Many.l0 k x (n : Int) acc) (fun k => spec_l1Many.l0.eq_2 ..) (Ev.pos (by omega) (Ev.pos ho (Ev.pos (by omega) (Ev.pos (by omega) (by rw [hd]; exact hr))))), by omega⟩
   ·obtain ⟨r, hr, hs⟩ := ih (n / 2) (by omega) (x ++ x) acc (by omega) (by rw [h4]; omega)
    rw [h4] at hs
    refine ⟨r, Ev.step (g := fun k => spec_l1Many.l0 k x (n : Int) acc) (fun k => spec_l1Many.l0.eq_2 ..) (Ev.pos (by omega) (Ev.neg ho (Ev.pos (by omega) (by rw [hd]; exact hr)))), by omega⟩
theorem spoil_l0 {b : List Int} (hb : Bs b) (s : ByteArray) (x : Int) (hx : 40 ≤ x) (hx' : x ≤ 41) (d : Nat) : ∀ (p : Int) (l : List S95), l.length ≤ 41 → 41 - l.length = d → 0 ≤ p → p + 20 * d ≤ 800000 → Dr (fun k => spec_l2SpoilTube.l0 k x b p s l) s 41 p (20 * d + 1) := by
 induction d with
 | zero =>
  intro p l h1 h2 h3 h4
  exact ⟨l, p, Ev.step (g := fun k => spec_l2SpoilTube.l0 k x b p s l) (fun k => spec_l2SpoilTube.l0.eq_2 ..) (Ev.neg (by omega) (Ev.now _)), h1, by omega, by omega⟩
 | succ d ih =>
  intro p l h1 h2 h3 h4
  by_cases hlt : (l.length : Int) < x
  ·obtain ⟨x0, x1, x2, x3, x4, x5, q, hx, hq, hq'⟩ := box_ev hb (p := p) (by omega) (by omega)
   refine ((ih q (l ++ [⟨x0, x1, x2, x3, x4, x5⟩]) (by simp; omega) (by simp; omega) (by omega) (by omega)).more (p' := p) (c' := 20 * (d + 1 : Nat) + 1) (by omega) (by omega)).lift (fun z hz => ?_)
   exact Ev.step (g := fun k => spec_l2SpoilTube.l0 k x b p s l) (fun k => spec_l2SpoilTube.l0.eq_2 ..) (Ev.pos hlt (Ev.bind hx (Ev.pos (by omega) hz)))
  ·exact ⟨l, p, Ev.step (g := fun k => spec_l2SpoilTube.l0 k x b p s l) (fun k => spec_l2SpoilTube.l0.eq_2 ..) (Ev.neg hlt (Ev.now _)), h1, by omega, by omega⟩
/-- A tube: the name too may be another. -/
def Dt (F : Nat → Option (ByteArray × List S95 × Int)) (p c : Int) : Prop := ∃ (s : ByteArray) (l : List S95) (q : Int), Ev F (s, l, q) ∧ l.length ≤ 41 ∧ s.size ≤ 20 ∧ p ≤ q ∧ q ≤ p + c
theorem spoilt_ev {b : List Int} (hb : Bs b) (s : ByteArray) (l : List S95) (hs : s.size ≤ 20) (hl : l.length ≤ 40) {p : Int} (h0 : 0 ≤ p) (h1 : p ≤ 600000) : Dt (fun k => spec_l2SpoilTube.f k b p s l) p 1000 := by
 unfold spec_l2SpoilTube.f
 have hc : spec_l2Copy.f s l = some (s, l) := by
  unfold spec_l2Copy.f
  simp only [Option.bind_some, List.nil_append, List.length_nil, Nat.zero_add]
  rw [if_pos (by omega)]
 obtain ⟨a, ha, _⟩ := pick_ev hb h0 (by omega) 4
 by_cases c0 : a = 0
 ·obtain ⟨r, hr, r0, r1⟩ := pick_ev hb (p := p + 1) (by omega) (by omega) 2
  have r2 := r1 (by omega)
  obtain ⟨n, rfl⟩ := Int.eq_ofNat_of_zero_le r0
  have hz1 : (⟨#[110]⟩ : ByteArray).size = 1 := rfl
  have hz0 : (⟨#[]⟩ : ByteArray).size = 0 := rfl
  obtain ⟨t, ht, hts⟩ := many_ev (8 + n) ⟨#[110]⟩ ⟨#[]⟩ (by omega) (by rw [hz1, hz0]; omega)
  rw [hz1, hz0] at hts
  have hm : Ev (fun k => spec_l1Many.f k ⟨#[110]⟩ (wrap64 (8 + (n : Int)))) t := by
   unfold spec_l1Many.f
   rw [wr (by omega) (by omega), show (8 : Int) + (n : Int) = ((8 + n : Nat) : Int) by omega]
   exact ht
  obtain ⟨u, hu, hmem⟩ := of_ev hb (p := p + 1 + 1) (by omega) (by omega) [⟨#[]⟩, ⟨#[65]⟩, t] (by simp)
  refine ⟨u, l, p + 1 + 1 + 1, Ev.bind (Ev.is hc) (Ev.bind ha (Ev.pos c0 (Ev.bind hr (Ev.bind hm (Ev.bind hu (Ev.now _)))))), by omega, ?_, by omega, by omega⟩
  simp only [List.mem_cons, List.not_mem_nil, or_false] at hmem
  rcases hmem with rfl | rfl | rfl
  ·rw [hz0]; omega
  ·show 1 ≤ 20; omega
  ·omega
 by_cases c1 : a = 1
 ·obtain ⟨r, hr, r0, r1⟩ := pick_ev hb (p := p + 1) (by omega) (by omega) 2
  have r2 := r1 (by omega)
  obtain ⟨l', q, hz, hl', hq, hq'⟩ := spoil_l0 hb s (wrap64 (40 + r)) (by rw [wr (by omega) (by omega)]; omega) (by rw [wr (by omega) (by omega)]; omega) (41 - l.length) (p + 1 + 1) l (by omega) rfl (by omega) (by omega)
  exact ⟨s, l', q, Ev.bind (Ev.is hc) (Ev.bind ha (Ev.neg c0 (Ev.pos c1 (Ev.bind hr hz)))), hl', hs, by omega, by omega⟩
 by_cases hp : (l.length : Int) > 0
 ·obtain ⟨r, hr, r0, r1⟩ := pick_ev hb (p := p + 1) (by omega) (by omega) (l.length : Int)
  have r2 := r1 (by omega)
  obtain ⟨y0, y1, y2, y3, y4, y5, q, hy, hq, hq'⟩ := spoil_ev hb (p := p + 1 + 1) (by omega) (by omega) (rd_T95 l r)
  refine ⟨s, l.set r.toNat ⟨y0, y1, y2, y3, y4, y5⟩, q, Ev.bind (Ev.is hc) (Ev.bind ha (Ev.neg c0 (Ev.neg c1 (Ev.pos hp (Ev.bind hr (Ev.pos r0 (Ev.pos r2 (Ev.bind hy (Ev.now _))))))))), by simp; omega, hs, by omega, by omega⟩
 ·exact ⟨s, l, p + 1, Ev.bind (Ev.is hc) (Ev.bind ha (Ev.neg c0 (Ev.neg c1 (Ev.neg hp (Ev.now _))))), by omega, hs, by omega, by omega⟩
end Go.Proofs.Ytdbomnhdpniigaa.Q
