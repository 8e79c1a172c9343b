/- The draws: each comes to an answer; how far the reader goes, and how great what is drawn may be. No condition beside what is typed. -/
import Derived.Test.YtdbomnhdpniigaaQ3
namespace Go.Proofs.Ytdbomnhdpniigaa.Q
open Go.RowKit Go.Proofs.Ytdbomnhdpniigaa.PA Go.Proofs.YtdbomnhdpniigaaW.PrintWords Go.Proofs.YtdbomnhdpniigaaW.PrintLast Go.Proofs.YtdbomnhdpniigaaW.PrintMore

def Bs (b : List Int) : Prop := (∀ x ∈ b, 0 ≤ x ∧ x ≤ 255) ∧ b.length ≤ 2000
theorem wr {x : Int} (h : -9223372036854775808 ≤ x) (h' : x ≤ 9223372036854775807) : wrap64 x = x := by
 unfold wrap64
 omega
theorem rd_bs {b : List Int} (hb : Bs b) (i : Int) : 0 ≤ rd b i ∧ rd b i ≤ 255 := by
 unfold rd
 rcases Nat.lt_or_ge i.toNat b.length with h | h
 ·rw [List.getD_eq_getElem?_getD, List.getElem?_eq_getElem h]
  exact hb.1 _ (List.getElem_mem h)
 ·rw [List.getD_eq_getElem?_getD, List.getElem?_eq_none h]
  simp
theorem tm {a n : Int} (h0 : 0 ≤ a) (hn : 0 < n) : 0 ≤ Int.tmod a n ∧ Int.tmod a n < n := ⟨Int.tmod_nonneg n h0, Int.tmod_lt_of_pos a hn⟩
theorem td {a n : Int} (h0 : 0 ≤ a) (hn : 0 < n) : 0 ≤ Int.tdiv a n ∧ Int.tdiv a n ≤ a := by
 rw [Int.tdiv_eq_ediv_of_nonneg h0]
 exact ⟨Int.ediv_nonneg h0 (by omega), Int.ediv_le_self n h0⟩
theorem xor_pos {x y : Int} (h0 : 0 ≤ x) (h1 : x < 4611686018427387904) (h2 : 0 ≤ y) (h3 : y < 4611686018427387904) : 0 ≤ Go.bits .xor .i64 x y := by
 obtain ⟨a, rfl⟩ := Int.eq_ofNat_of_zero_le h0
 obtain ⟨b, rfl⟩ := Int.eq_ofNat_of_zero_le h2
 have e : ∀ n : Nat, n < 9223372036854775808 → (BitVec.ofInt 64 (n : Int)).toNat = n := fun n hn => by
  rw [BitVec.ofInt_natCast, BitVec.toNat_ofNat]
  exact Nat.mod_eq_of_lt (by omega)
 have hx : a ^^^ b < 2 ^ 62 := Nat.xor_lt_two_pow (by omega) (by omega)
 show 0 ≤ IntKind.i64.wrap ((BitVec.ofInt 64 (a : Int) ^^^ BitVec.ofInt 64 (b : Int)).toNat : Int)
 rw [BitVec.toNat_xor, e a (by omega), e b (by omega), IntKind.wrap_i64]
 omega
theorem pick_ev {b : List Int} (hb : Bs b) {p : Int} (h0 : 0 ≤ p) (h1 : p ≤ 1000000) (n : Int) : ∃ r, Ev (fun k => spec_l1Rd_pick.f k b p n) (r, p + 1) ∧ 0 ≤ r ∧ (1 ≤ n → r < n) := by
 have w1 : wrap64 (p + 1) = p + 1 := wr (by omega) (by omega)
 have w2 : wrap64 (p + 1 - 1) = p := by rw [show p + 1 - 1 = p by omega]; exact wr (by omega) (by omega)
 by_cases hn : n < 1
 ·refine ⟨0, ⟨1, fun k hk => ?_⟩, Int.le_refl _, fun h => by omega⟩
  obtain ⟨k, rfl⟩ : ∃ m, k = m + 1 := ⟨k - 1, by omega⟩
  simp only [spec_l1Rd_pick.f, spec_l1Rd_pick.j0]
  rw [if_pos hn, w1]
  rfl
 by_cases hl : b.length = 0
 ·refine ⟨0, ⟨1, fun k hk => ?_⟩, Int.le_refl _, fun h => by omega⟩
  obtain ⟨k, rfl⟩ : ∃ m, k = m + 1 := ⟨k - 1, by omega⟩
  simp only [spec_l1Rd_pick.f, spec_l1Rd_pick.j0]
  rw [if_neg hn, w1, if_pos (by simp [hl])]
 have hlp : (0 : Int) < b.length := by omega
 have hl2 : b.length ≤ 2000 := hb.2
 by_cases hp : p < (b.length : Int)
 ·have hr := rd_bs hb p
  have ht := tm (a := rd b p) (n := n) hr.1 (by omega)
  refine ⟨Int.tmod (rd b p) n, ⟨1, fun k hk => ?_⟩, ht.1, fun _ => ht.2⟩
  obtain ⟨k, rfl⟩ : ∃ m, k = m + 1 := ⟨k - 1, by omega⟩
  simp only [spec_l1Rd_pick.f, spec_l1Rd_pick.j0]
  rw [if_neg hn, w1, w2, if_neg (by simpa using hl), if_pos hp, if_pos h0, if_neg (by omega), wr (by omega) (by omega)]
 ·have i1 := tm (a := p) h0 hlp
  have w3 : wrap64 (p * 7) = p * 7 := wr (by omega) (by omega)
  have w4 : wrap64 (p * 7 + 3) = p * 7 + 3 := wr (by omega) (by omega)
  have i2 := tm (a := p * 7 + 3) (by omega) hlp
  have r1 := rd_bs hb (Int.tmod p b.length)
  have r2 := rd_bs hb (Int.tmod (p * 7 + 3) b.length)
  have d1 := td (a := p) h0 hlp
  generalize ha : rd b (Int.tmod p b.length) = a at r1
  generalize hc : rd b (Int.tmod (p * 7 + 3) b.length) = c at r2
  generalize hd : Int.tdiv p b.length = d at d1
  have x0 : 0 ≤ a * 131 + c * 1117 + p * 29 + d * 53 := by omega
  have x1 : a * 131 + c * 1117 + p * 29 + d * 53 ≤ 1000000000 := by omega
  have d2 := td (a := a * 131 + c * 1117 + p * 29 + d * 53) (n := 64) x0 (by omega)
  have hx := xor_pos x0 (by omega) d2.1 (by omega)
  have ht := tm (n := n) hx (by omega)
  refine ⟨Int.tmod (Go.bits .xor .i64 (a * 131 + c * 1117 + p * 29 + d * 53) (Int.tdiv (a * 131 + c * 1117 + p * 29 + d * 53) 64)) n, ⟨1, fun k hk => ?_⟩, ht.1, fun _ => ht.2⟩
  obtain ⟨k, rfl⟩ : ∃ m, k = m + 1 := ⟨k - 1, by omega⟩
  simp only [spec_l1Rd_pick.f, spec_l1Rd_pick.j0]
  rw [if_neg hn, w1, w2, if_neg (by simpa using hl), if_neg hp, if_neg (by omega), if_pos i1.1, if_pos i1.2, w3, w4, if_pos i2.1, if_pos i2.2, if_neg (by omega), ha, hc, hd,
   wr (x := a) (by omega) (by omega), wr (x := a * 131) (by omega) (by omega), wr (x := c) (by omega) (by omega), wr (x := c * 1117) (by omega) (by omega), wr (x := a * 131 + c * 1117) (by omega) (by omega), wr (x := p * 29) (by omega) (by omega),
   wr (x := a * 131 + c * 1117 + p * 29) (by omega) (by omega), wr (x := d) (by omega) (by omega), wr (x := d * 53) (by omega) (by omega), wr (x := a * 131 + c * 1117 + p * 29 + d * 53) (by omega) (by omega), wr (x := Int.tdiv (a * 131 + c * 1117 + p * 29 + d * 53) 64) (by omega) (by omega)]
theorem open_ev (l : List Int) (h : ∀ x ∈ l, 0 ≤ x ∧ x ≤ 255) : ∃ b, spec_l1Open.f l = some (b, 0) ∧ Bs b := by
 unfold spec_l1Open.f
 by_cases hl : (l.length : Int) > 2000
 ·rw [if_pos hl, if_pos (by omega)]
  exact ⟨_, rfl, fun x hx => h x (List.mem_of_mem_take hx), by simp; omega⟩
 ·rw [if_neg hl]
  exact ⟨_, rfl, h, by omega⟩
theorem of_ev {b : List Int} (hb : Bs b) {p : Int} (h0 : 0 ≤ p) (h1 : p ≤ 1000000) (l : List ByteArray) (hl : 0 < l.length) : ∃ s, Ev (fun k => spec_l1Rd_of.f k b p l) (s, p + 1) ∧ s ∈ l := by
 obtain ⟨r, hr, r0, r1⟩ := pick_ev hb h0 h1 (l.length : Int)
 have r2 := r1 (by omega)
 have hlt : r.toNat < l.length := by omega
 refine ⟨l[r.toNat], ?_, List.getElem_mem hlt⟩
 unfold spec_l1Rd_of.f
 refine Ev.bind hr (Ev.pos r0 (Ev.pos r2 (Ev.is ?_)))
 unfold rdOf
 simp [hlt]
/-- A box is drawn. -/
theorem box_ev {b : List Int} (hb : Bs b) {p : Int} (h0 : 0 ≤ p) (h1 : p ≤ 900000) : ∃ (a c d e f g q : Int), Ev (fun k => spec_l1DrawBox.f k b p) (a, c, d, e, f, g, q) ∧ p ≤ q ∧ q ≤ p + 10 := by
 unfold spec_l1DrawBox.f
 obtain ⟨a1, e1, _⟩ := pick_ev hb h0 (by omega) 6
 obtain ⟨a2, e2, _⟩ := pick_ev hb (p := p + 1) (by omega) (by omega) 6
 obtain ⟨a3, e3, _⟩ := pick_ev hb (p := p + 1 + 1) (by omega) (by omega) 3
 obtain ⟨a4, e4, _⟩ := pick_ev hb (p := p + 1 + 1 + 1) (by omega) (by omega) 60
 obtain ⟨a5, e5, _⟩ := pick_ev hb (p := p + 1 + 1 + 1 + 1) (by omega) (by omega) 3
 obtain ⟨a6, e6, _⟩ := pick_ev hb (p := p + 1 + 1 + 1 + 1 + 1) (by omega) (by omega) 20
 obtain ⟨a7, e7, _⟩ := pick_ev hb (p := p + 1 + 1 + 1 + 1 + 1 + 1) (by omega) (by omega) 24
 obtain ⟨a8, e8, _⟩ := pick_ev hb (p := p + 1 + 1 + 1 + 1 + 1 + 1 + 1) (by omega) (by omega) 2
 obtain ⟨a9, e9, _⟩ := pick_ev hb (p := p + 1 + 1 + 1 + 1 + 1 + 1 + 1) (by omega) (by omega) 9
 by_cases c0 : a7 = 0
 ·exact ⟨_, _, _, _, _, _, _, Ev.bind e1 (Ev.bind e2 (Ev.bind e3 (Ev.bind e4 (Ev.bind e5 (Ev.bind e6 (Ev.bind e7 (Ev.pos c0 (Ev.bind e8 (Ev.now _))))))))), by omega, by omega⟩
 by_cases c1 : a7 = 1
 ·exact ⟨_, _, _, _, _, _, _, Ev.bind e1 (Ev.bind e2 (Ev.bind e3 (Ev.bind e4 (Ev.bind e5 (Ev.bind e6 (Ev.bind e7 (Ev.neg c0 (Ev.pos c1 (Ev.bind e9 (Ev.now _)))))))))), by omega, by omega⟩
 by_cases c2 : a7 = 2
 ·exact ⟨_, _, _, _, _, _, _, Ev.bind e1 (Ev.bind e2 (Ev.bind e3 (Ev.bind e4 (Ev.bind e5 (Ev.bind e6 (Ev.bind e7 (Ev.neg c0 (Ev.neg c1 (Ev.pos c2 (Ev.now _)))))))))), by omega, by omega⟩
 ·exact ⟨_, _, _, _, _, _, _, Ev.bind e1 (Ev.bind e2 (Ev.bind e3 (Ev.bind e4 (Ev.bind e5 (Ev.bind e6 (Ev.bind e7 (Ev.neg c0 (Ev.neg c1 (Ev.neg c2 (Ev.now _)))))))))), by omega, by omega⟩
/-- A box is spoilt. -/
theorem spoil_ev {b : List Int} (hb : Bs b) {p : Int} (h0 : 0 ≤ p) (h1 : p ≤ 900000) (x : S95) : ∃ (a c d e f g q : Int), Ev (fun k => spec_l1SpoilBox.f k b p x.f0 x.f1 x.f2 x.f3 x.f4 x.f5) (a, c, d, e, f, g, q) ∧ p ≤ q ∧ q ≤ p + 10 := by
 unfold spec_l1SpoilBox.f
 obtain ⟨a1, e1, _⟩ := pick_ev hb h0 (by omega) 6
 obtain ⟨a2, e2, z2, u2⟩ := pick_ev hb (p := p + 1) (by omega) (by omega) 2
 obtain ⟨a3, e3, z3, u3⟩ := pick_ev hb (p := p + 1) (by omega) (by omega) 3
 obtain ⟨a4, e4, z4, u4⟩ := pick_ev hb (p := p + 1) (by omega) (by omega) 4
 have v2 := u2 (by omega)
 have v3 := u3 (by omega)
 have v4 := u4 (by omega)
 by_cases c0 : a1 = 0
 ·exact ⟨_, _, _, _, _, _, _, Ev.bind e1 (Ev.pos c0 (Ev.bind (Ev.now _) (Ev.bind e4 (Ev.pos z4 (Ev.pos (by simpa using v4) (Ev.now _)))))), by omega, by omega⟩
 by_cases c1 : a1 = 1
 ·exact ⟨_, _, _, _, _, _, _, Ev.bind e1 (Ev.neg c0 (Ev.pos c1 (Ev.bind (Ev.now _) (Ev.bind e2 (Ev.pos z2 (Ev.pos (by simpa using v2) (Ev.now _))))))), by omega, by omega⟩
 by_cases c2 : a1 = 2
 ·exact ⟨_, _, _, _, _, _, _, Ev.bind e1 (Ev.neg c0 (Ev.neg c1 (Ev.pos c2 (Ev.bind (Ev.now _) (Ev.bind e3 (Ev.pos z3 (Ev.pos (by simpa using v3) (Ev.now _)))))))), by omega, by omega⟩
 by_cases c3 : a1 = 3
 ·exact ⟨_, _, _, _, _, _, _, Ev.bind e1 (Ev.neg c0 (Ev.neg c1 (Ev.neg c2 (Ev.pos c3 (Ev.bind (Ev.now _) (Ev.bind e2 (Ev.pos z2 (Ev.pos (by simpa using v2) (Ev.now _))))))))), by omega, by omega⟩
 by_cases c4 : a1 = 4
 ·exact ⟨_, _, _, _, _, _, _, Ev.bind e1 (Ev.neg c0 (Ev.neg c1 (Ev.neg c2 (Ev.neg c3 (Ev.pos c4 (Ev.bind (Ev.now _) (Ev.bind e3 (Ev.pos z3 (Ev.pos (by simpa using v3) (Ev.now _)))))))))), by omega, by omega⟩
 ·exact ⟨_, _, _, _, _, _, _, Ev.bind e1 (Ev.neg c0 (Ev.neg c1 (Ev.neg c2 (Ev.neg c3 (Ev.neg c4 (Ev.bind (Ev.now _) (Ev.bind e2 (Ev.pos z2 (Ev.pos (by simpa using v2) (Ev.now _)))))))))), by omega, by omega⟩
end Go.Proofs.Ytdbomnhdpniigaa.Q
