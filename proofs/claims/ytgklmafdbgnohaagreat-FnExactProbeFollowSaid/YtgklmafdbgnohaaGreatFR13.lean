/- spec.l5Put: it puts a box's slot into its place in the index. No condition. -/
import Derived.Test.YtgklmafdbgnohaaGreatFR11
import Derived.Test.YtgklmafdbgnohaaGreatFG12
import Derived.Deep.LoopGhost
import Derived.Deep.CutBlock
import Derived.Deep.CutRange
import Derived.Deep.QuietTactic
import Derived.BigQuiet
section
namespace Go.Proofs.YtgklmafdbgnohaaGreat.Ip
open Go.RowKit Go.Proofs Go.Proofs.YtgklmafdbgnohaaGreatW.PrintWords Go.Proofs.YtgklmafdbgnohaaGreatW.PrintLast Go.Proofs.YtgklmafdbgnohaaGreatW.PrintMore Go.Proofs.YtgklmafdbgnohaaGreat.Z Go.Proofs.YtgklmafdbgnohaaGreat.PA Go.Proofs.YtgklmafdbgnohaaGreat.Ik Go.Proofs.YtgklmafdbgnohaaGreat.Ix Go.Proofs.YtgklmafdbgnohaaGreat.Il Go.Proofs.YtgklmafdbgnohaaGreat.Iw Go.Proofs.YtgklmafdbgnohaaGreat.Ir
set_option linter.unusedSimpArgs false
set_option linter.unusedVariables false
theorem flat_get (D : List Tr) : ∀ (i c : Nat), c < 3 → (D.flatMap encC)[i * 3 + c]? = (D[i]?).bind fun t => (encC t)[c]? := by
  induction D with
  | nil => intro i c hc; simp
  | cons t r ih =>
    intro i c hc
    cases i with
    | zero =>
      rw [List.flatMap_cons, Nat.zero_mul, Nat.zero_add, List.getElem?_append_left (by simpa [encC] using hc)]
      rfl
    | succ i =>
      rw [List.flatMap_cons, show (i + 1) * 3 + c = (encC t).length + (i * 3 + c) by simp [encC]; omega, List.getElem?_append_right (by omega), Nat.add_sub_cancel_left, ih i c hc]
      rfl
theorem flat_len (D : List Tr) : (D.flatMap encC).length = D.length * 3 := (reps_of (R := fun x c => c = encC x) (k := 3) (fun _ => rfl) (fun _ _ _ => rfl)).1
theorem flat_set (D : List Tr) : ∀ (i : Nat) (t u : Tr), D[i]? = some t → u.1 = t.1 → (D.set i u).flatMap encC = (D.flatMap encC).set (i * 3 + 2) (tv u) := by
  induction D with
  | nil => intro i t u h; simp at h
  | cons a r ih =>
    intro i t u h e
    cases i with
    | zero =>
      simp only [List.getElem?_cons_zero, Option.some.injEq] at h
      subst h
      simp only [List.set_cons_zero, List.flatMap_cons, encC, e]
      rfl
    | succ i =>
      rw [List.set_cons_succ, List.flatMap_cons, List.flatMap_cons, ih i t u (by simpa using h) e, show (i + 1) * 3 + 2 = (encC a).length + (i * 3 + 2) by simp [encC]; omega, List.set_append_right _ _ (by omega), Nat.add_sub_cancel_left]
structure CX (base : Nat) (v : Value) (D : List Tr) (W : World) : Prop where
  o : W.ownsRow base 84 3 v D.length (D.flatMap encC)
  r : ∀ (j : Nat) t, D[j]? = some t → Kd.R k80 80 W base (fun _ => True) (tv t) t.2.2
  d : ∀ (i j : Nat) p q, D[i]? = some p → D[j]? = some q → i ≠ j → (tv p).ownBlock = none ∨ (tv p).ownBlock ≠ (tv q).ownBlock
section
variable {base : Nat} {v : Value} {D : List Tr} {W W' : World}
theorem CX.nil (base : Nat) (W : World) : CX base (.slice none 0 0) [] W := ⟨⟨rfl, .inl ⟨rfl, rfl⟩⟩, fun j t h => by simp at h, fun i j p q h => by simp at h⟩
theorem CX.S (h : CX base v D W) : Kd.S k84 84 W base (fun _ => True) v (D.map tc) := cells_S h.o h.r h.d
theorem CX.kept (h : CX base v D W) {b : Option Nat} (hg : W.grownBy W' b) (hb : ∀ (k t : Nat) cs, b = some k → W.heap[k]? = some (.cells cs t (0, 0)) → t ≠ 84 ∧ t ≠ 80) : CX base v D W' := by
  refine ⟨?_, fun j t ht => ?_, h.d⟩
  · refine h.o.kept hg ?_
    cases e : v.ownBlock with
    | none => exact .inl rfl
    | some k =>
      right
      intro e2
      obtain ⟨cs, hc⟩ := own_typed h.o k e
      exact (hb k _ cs e2.symm hc).1 rfl
  · refine Kd.R_mono (Kd.R_grown (Kd.R_tight rfl (h.r j t ht)) hg fun k hk e => ?_) fun _ _ => trivial
    obtain ⟨cs, hc⟩ := Kd.R_typed (h.r j t ht) k hk.symm
    exact (hb k _ cs e.symm hc).2 rfl
theorem CX.below (h : CX base v D W) (hb : Below W.heap.size W W') : CX base v D W' :=
  ⟨pw_own_below h.o hb, fun j t ht => Kd.R_below (h.r j t ht) hb, h.d⟩
theorem CX.slice (h : CX base v D W) : ∃ A c, v = .slice A D.length c := by
  obtain ⟨_, h3⟩ := h.o
  rcases h3 with ⟨rfl, h0⟩ | ⟨g, cap, cur, rfl, _⟩
  · exact ⟨none, 0, by rw [h0]⟩
  · exact ⟨_, _, rfl⟩
theorem CX.at (h : CX base v D W) {i : Nat} (hi : i < D.length) : ∃ g c, v = .slice (some ⟨g, 0, none⟩) D.length c ∧ base ≤ g ∧ g < W.heap.size ∧ (∃ cs, W.heap[g]? = some (.cells cs 84 (0, 0))) ∧ W.cell? ⟨g, i * 3, none⟩ = some (.int .i64 D[i].1.1) ∧ W.cell? ⟨g, i * 3 + 1, none⟩ = some (.int .i64 D[i].1.2) ∧ W.cell? ⟨g, i * 3 + 2, none⟩ = some (tv D[i]) ∧ W.frozen? ⟨g, i * 3 + 2, none⟩ = false := by
  obtain ⟨hl, h3⟩ := h.o
  rcases h3 with ⟨_, h0⟩ | ⟨g, cap, cur, rfl, hb, hh, hn, hcap, hcs, ht⟩
  · omega
  have hc : ∀ c, c < 3 → W.cell? ⟨g, i * 3 + c, none⟩ = (encC D[i])[c]? := fun c hc => by
    rw [blk_cell hh, ← Array.getElem?_toList]
    have h1 := flat_get D i c hc
    rw [← ht, List.getElem?_take_of_lt (by omega), List.getElem?_eq_getElem hi] at h1
    exact h1
  exact ⟨g, cap, rfl, hb, blk_lt hh, ⟨cur, hh⟩, hc 0 (by decide), hc 1 (by decide), hc 2 (by decide), blk_frozen hh _⟩
theorem CX.put (h : CX base v D W) {i : Nat} (hi : i < D.length) {g c : Nat} (hv : v = .slice (some ⟨g, 0, none⟩) D.length c) {A : Option Addr} {n cp : Nat} {xs : List Sl} (hR : Kd.R k80 80 W base (fun _ => True) (.slice A n cp) xs) (hd : ∀ (j : Nat) p, D[j]? = some p → (tv p).ownBlock = none ∨ (tv p).ownBlock ≠ (Value.slice A n cp).ownBlock) :
    CX base v (D.set i (D[i].1, (A, n, cp), xs)) (W.setCell ⟨g, i * 3 + 2, none⟩ (.slice A n cp)) ∧ W.grownBy (W.setCell ⟨g, i * 3 + 2, none⟩ (.slice A n cp)) (some g) := by
  have hgr : W.grownBy (W.setCell ⟨g, i * 3 + 2, none⟩ (.slice A n cp)) (some g) := ⟨rfl, rfl, rfl, by simp, fun k hk hn => Below.heap_setCell W ⟨g, i * 3 + 2, none⟩ _ k (fun e => hn (by rw [e]))⟩
  obtain ⟨hl, h3⟩ := h.o
  rcases h3 with ⟨_, h0⟩ | ⟨g', cap, cur, hv', hb, hh, hn, hcap, hcs, ht⟩
  · omega
  obtain ⟨rfl, rfl⟩ : g' = g ∧ cap = c := by rw [hv] at hv'; injection hv' with h1 h2 h3; injection h1 with h1; injection h1 with h1; exact ⟨h1.symm, h3.symm⟩
  have hty : ∀ (k : Nat) (u : Value) (ys : List Sl), Kd.R k80 80 W base (fun _ => True) u ys → u.ownBlock = some k → some k ≠ some g' := fun k u ys hu hk e => by
    obtain ⟨cs, hc⟩ := Kd.R_typed hu k hk
    rw [Option.some.inj e, hh] at hc
    injection hc with hc
    injection hc with _ hc
    exact absurd hc (by decide)
  refine ⟨⟨?_, fun j t htj => ?_, fun a b p q hp hq hne => ?_⟩, hgr⟩
  · rw [flat_set D i D[i] (D[i].1, (A, n, cp), xs) (List.getElem?_eq_getElem hi) rfl, List.length_set]
    refine ⟨by rw [List.length_set]; exact hl, .inr ⟨g', cap, cur.setIfInBounds (i * 3 + 2) (.slice A n cp), hv', hb, blk_set hh _ _, hn, hcap, by simpa using hcs, ?_⟩⟩
    rw [Array.toList_setIfInBounds, List.take_set, ht]
  · rw [List.getElem?_set] at htj
    by_cases e : i = j
    · rw [if_pos e] at htj
      subst e
      simp only [hi, if_true, Option.some.injEq] at htj
      subst htj
      exact Kd.R_mono (Kd.R_grown (Kd.R_tight rfl hR) hgr fun k hk => hty k _ _ hR hk.symm) fun _ _ => trivial
    · rw [if_neg e] at htj
      exact Kd.R_mono (Kd.R_grown (Kd.R_tight rfl (h.r j t htj)) hgr fun k hk => hty k _ _ (h.r j t htj) hk.symm) fun _ _ => trivial
  · rw [List.getElem?_set] at hp hq
    by_cases e : i = a
    · subst e
      simp only [if_true, hi, Option.some.injEq] at hp
      subst hp
      rw [if_neg hne] at hq
      rcases hd b q hq with h1 | h1
      · by_cases e : (Value.slice A n cp).ownBlock = none
        · exact .inl e
        · exact .inr (fun e' => e (e'.trans h1))
      · exact .inr (Ne.symm h1)
    · rw [if_neg e] at hp
      by_cases e2 : i = b
      · subst e2
        simp only [if_true, hi, Option.some.injEq] at hq
        subst hq
        exact hd a p hp
      · rw [if_neg e2] at hq
        exact h.d a b p q hp hq hne
end
section
variable {base : Nat} {v : Value} {D D' : List Tr} {W W' : World}
theorem raw_own (h : (Kd.raw 3).R 84 W base (fun _ => True) v (D.map encC)) : W.ownsRow base 84 3 v D.length (D.flatMap encC) := by
  obtain ⟨_, inner, ho, hr⟩ := h
  have e := flat_of (enc := id) (fun x c hc => by exact hc.1) hr
  rw [List.length_map] at ho
  rw [e, List.flatMap_map] at ho
  exact ho
theorem enc_one (t : Tr) : ∀ u ∈ encC t, u.oneCell' = true := by
  intro u hu
  simp [encC] at hu
  rcases hu with rfl | rfl | rfl <;> rfl
theorem own_raw (h : W.ownsRow base 84 3 v D.length (D.flatMap encC)) : (Kd.raw 3).R 84 W base (fun _ => True) v (D.map encC) := by
  refine ⟨fun _ _ => trivial, D.flatMap encC, by rw [List.length_map]; exact h, ?_⟩
  have h1 : ((D.map encC).flatMap id) = D.flatMap encC := by rw [List.flatMap_map]; rfl
  have hl : ∀ c ∈ D.map encC, c.length = 3 ∧ ∀ u ∈ c, u.oneCell' = true := fun c hc => by
    obtain ⟨t, _, rfl⟩ := List.mem_map.1 hc
    exact ⟨rfl, enc_one t⟩
  refine ⟨by rw [List.length_map]; exact flat_len D, fun j p hj => ?_⟩
  rw [List.getElem?_map] at hj
  cases e : D[j]? with
  | none => rw [e] at hj; cases hj
  | some t =>
    rw [e] at hj
    cases hj
    have := (reps_of (R := fun x c => c = encC x) (k := 3) (xs := D) (fun _ => rfl) (fun _ _ _ => rfl)).2 j t e
    have this : ((D.flatMap encC).drop (j * 3)).take 3 = encC t := this
    exact ⟨this, (congrArg List.length this).trans rfl, fun u hu => enc_one t u (this ▸ hu)⟩
theorem dis_perm (hp : D'.Perm D) (h : ∀ (i j : Nat) p q, D[i]? = some p → D[j]? = some q → i ≠ j → (tv p).ownBlock = none ∨ (tv p).ownBlock ≠ (tv q).ownBlock) : ∀ (i j : Nat) p q, D'[i]? = some p → D'[j]? = some q → i ≠ j → (tv p).ownBlock = none ∨ (tv p).ownBlock ≠ (tv q).ownBlock := by
  have hs : ∀ p q : Tr, ((tv p).ownBlock = none ∨ (tv p).ownBlock ≠ (tv q).ownBlock) → ((tv q).ownBlock = none ∨ (tv q).ownBlock ≠ (tv p).ownBlock) := fun p q h => by
    rcases h with h | h
    · rw [h]
      by_cases e : (tv q).ownBlock = none
      · exact .inl e
      · exact .inr e
    · exact .inr (Ne.symm h)
  have h1 : D.Pairwise fun p q : Tr => (tv p).ownBlock = none ∨ (tv p).ownBlock ≠ (tv q).ownBlock := List.pairwise_iff_getElem.2 fun i j hi hj hij => h i j _ _ (List.getElem?_eq_getElem hi) (List.getElem?_eq_getElem hj) (by omega)
  have h2 := (hp.pairwise_iff (fun {p q} h => hs p q h)).2 h1
  rw [List.pairwise_iff_getElem] at h2
  intro i j p q hp hq hne
  obtain ⟨hi, rfl⟩ := List.getElem?_eq_some_iff.1 hp
  obtain ⟨hj, rfl⟩ := List.getElem?_eq_some_iff.1 hq
  rcases Nat.lt_or_gt_of_ne hne with hlt | hlt
  · exact h2 i j hi hj hlt
  · exact hs _ _ (h2 j i hj hi hlt)
theorem CX.ins (h : CX base v D W) {u : Tr} (hu : Kd.R k80 80 W base (fun _ => True) (tv u) u.2.2) (hn : ∀ (j : Nat) p, D[j]? = some p → (tv u).ownBlock = none ∨ (tv u).ownBlock ≠ (tv p).ownBlock) (hb : Below W.heap.size W W') {v' : Value} (hp : D'.Perm (u :: D)) (ho : W'.ownsRow base 84 3 v' D'.length (D'.flatMap encC)) : CX base v' D' W' := by
  refine ⟨ho, fun j t ht => ?_, dis_perm hp fun i j p q hp hq hne => ?_⟩
  · have hm := hp.mem_iff.1 (List.mem_of_getElem? ht)
    rcases List.mem_cons.1 hm with rfl | hm
    · exact Kd.R_below hu hb
    · obtain ⟨i, hi⟩ := List.getElem?_of_mem hm
      exact Kd.R_below (h.r i t hi) hb
  · cases i with
    | zero =>
      cases j with
      | zero => exact absurd rfl hne
      | succ j =>
        simp only [List.getElem?_cons_zero, Option.some.injEq] at hp
        subst hp
        exact hn j q (by simpa using hq)
    | succ i =>
      cases j with
      | zero =>
        simp only [List.getElem?_cons_zero, Option.some.injEq] at hq
        subst hq
        rcases hn i p (by simpa using hp) with h1 | h1
        · by_cases e : (tv p).ownBlock = none
          · exact .inl e
          · exact .inr (by rw [h1]; exact e)
        · exact .inr (Ne.symm h1)
      | succ j => exact h.d i j p q (by simpa using hp) (by simpa using hq) (by omega)
end
theorem insS_at (s : Sl) : ∀ (l : List Sl) (i : Nat), i ≤ l.length → (∀ (j : Nat) x, j < i → l[j]? = some x → slt (sk x) (sk s) = true) → (∀ x, l[i]? = some x → slt (sk x) (sk s) = false) → insS s l = l.take i ++ s :: l.drop i
  | [], i, hi, _, _ => by simp at hi; subst hi; rfl
  | x :: r, 0, _, _, h2 => by have h3 := h2 x rfl; simp [insS, h3]
  | x :: r, i + 1, hi, h1, h2 => by
    have h3 := h1 0 x (by omega) rfl
    rw [insS, if_pos h3, insS_at s r i (by simpa using hi) (fun j y hj hy => h1 (j + 1) y (by omega) (by simpa using hy)) (fun y hy => h2 y (by simpa using hy))]
    rfl
theorem before_eq (x s : Sl) : spec_l5Before.f x.f0 x.f1 x.f2 x.f3 x.f4 x.f5 s.f0 s.f1 s.f2 s.f3 s.f4 s.f5 = some (slt (sk x) (sk s)) := by
  rw [slt_eq]
  unfold spec_l5Before.f
  split
  · split <;> rfl
  · rfl
theorem l5Slot_at (l : List Sl) (s : Sl) (hl : l.length ≤ 1000000) : ∀ (k i : Nat), i ≤ l.length → l.length - i < k → (∀ (j : Nat) x, j < i → l[j]? = some x → slt (sk x) (sk s) = true) → spec_l5Slot.l0 k l (i : Int) s.f0 s.f1 s.f2 s.f3 s.f4 s.f5 = some (insS s l)
  | 0, i, _, h, _ => by omega
  | k + 1, i, hi, hk, hp => by
    have e0 : (0 : Int) ≤ (i : Int) := by omega
    have e1 : (i : Int) ≤ (l.length : Int) := by omega
    have e2 : (i : Int).toNat = i := by omega
    unfold spec_l5Slot.l0
    by_cases h : (i : Int) < (l.length : Int)
    · have h' : i < l.length := by omega
      have er : rd_T80 l (i : Int) = l[i] := by unfold rd_T80; simp [h']
      rw [if_pos h, if_pos e0, er, before_eq, Option.bind_some]
      by_cases hs : slt (sk l[i]) (sk s) = true
      · rw [if_pos hs, show wrap64 ((i : Int) + 1) = ((i + 1 : Nat) : Int) by unfold wrap64; omega]
        refine l5Slot_at l s hl k (i + 1) (by omega) (by omega) fun j x hj hx => ?_
        by_cases e : j = i
        · subst e
          rw [List.getElem?_eq_getElem h'] at hx
          cases hx
          exact hs
        · exact hp j x (by omega) hx
      · rw [if_neg hs]
        simp only [Option.bind_some, e1, e2, if_true, List.nil_append, List.length_nil, List.length_take, List.length_append, List.length_cons, List.length_drop]
        rw [if_pos (by omega), if_pos (by omega), if_pos (by omega), insS_at s l i hi hp (fun x hx => by rw [List.getElem?_eq_getElem h'] at hx; cases hx; simpa using hs)]
        simp
    · rw [if_neg h]
      simp only [Option.bind_some, e0, e1, e2, if_true, List.nil_append, List.length_nil, List.length_take, List.length_append, List.length_cons, List.length_drop]
      rw [if_pos (by omega), if_pos (by omega), if_pos (by omega), insS_at s l i hi hp (fun x hx => by have := (List.getElem?_eq_some_iff.1 hx).1; omega)]
      simp
theorem l5Slot_ok (l : List Sl) (s : Sl) (hl : l.length ≤ 1000000) : spec_l5Slot.f (l.length + 1) l s.f0 s.f1 s.f2 s.f3 s.f4 s.f5 = some (insS s l) :=
  l5Slot_at l s hl (l.length + 1) 0 (by omega) (by omega) (fun j x hj => by omega)
theorem insC_new (c : Int × Int) (s : Sl) : ∀ (I : List Ce) (i : Nat), i ≤ I.length → (∀ (j : Nat) x, j < i → I[j]? = some x → clt (cp x) c = true) → (∀ x, I[i]? = some x → clt (cp x) c = false ∧ cp x ≠ c) → insC c s I = I.take i ++ ⟨c.1, c.2, [s]⟩ :: I.drop i
  | [], i, hi, _, _ => by simp at hi; subst hi; rfl
  | x :: r, 0, _, _, h2 => by have h3 := h2 x rfl; simp [insC, h3.1, h3.2]
  | x :: r, i + 1, hi, h1, h2 => by
    have h3 := h1 0 x (by omega) rfl
    rw [insC, if_pos h3, insC_new c s r i (by simpa using hi) (fun j y hj hy => h1 (j + 1) y (by omega) (by simpa using hy)) (fun y hy => h2 y (by simpa using hy))]
    rfl
theorem insC_old (c : Int × Int) (s : Sl) : ∀ (I : List Ce) (i : Nat) (x : Ce), (∀ (j : Nat) x, j < i → I[j]? = some x → clt (cp x) c = true) → I[i]? = some x → clt (cp x) c = false → cp x = c → insC c s I = I.set i ⟨x.f0, x.f1, insS s x.f2⟩
  | [], i, x, _, h, _, _ => by simp at h
  | y :: r, 0, x, _, h, h2, h3 => by
    simp only [List.getElem?_cons_zero, Option.some.injEq] at h
    subst h
    rw [insC, if_neg (by simp [h2]), if_pos h3]
    rfl
  | y :: r, i + 1, x, h1, h, h2, h3 => by
    have h4 := h1 0 y (by omega) rfl
    rw [insC, if_pos h4, insC_old c s r i x (fun j z hj hz => h1 (j + 1) z (by omega) (by simpa using hz)) (by simpa using h) h2 h3]
    rfl
def l5p.T6 : Bool × List (List Nat × List Nat) := (true, [([], []), ([0], [0]), ([], []), ([], []), ([3], [3]), ([], []), ([4, 5], [4, 5]), ([6], [6]), ([7], [7]), ([], []), ([8, 9], [8, 9]), ([1, 2, 0, 1, 2, 3, 4, 5, 6, 7, 8, 9, 10], [1, 2]), ([11, 0, 1, 2, 3, 4, 5, 6, 7, 8, 9, 10], [11]), ([12, 10, 10, 0, 1, 2, 3, 4, 5, 6, 7, 8, 9, 10], [10, 12])])
def l5p.B6 : List Nat := [0, 1, 0, 0, 8, 0, 56, 120, 248, 0, 1016, 2047, 4095, 8191]
theorem l5p.tab6 : rtab .any (opsOf Tryz.f84 6) = l5p.T6 := by kernel_rfl
theorem l5p.bits6 : waitsOk l5p.T6.2 l5p.B6 = true := by kernel_rfl
def l5p.T9 : Bool × List (List Nat × List Nat) := (true, [([], []), ([], []), ([1], [1]), ([], []), ([2, 3], [2, 3]), ([0, 4], [0, 4]), ([], []), ([6], [6]), ([5, 7, 5], [5, 7]), ([], []), ([9], [9]), ([], []), ([10, 11], [10, 11]), ([8, 12, 8], [8, 12]), ([13], [13]), ([14, 13, 0, 1, 2, 3, 4, 5, 6, 7, 8, 9, 10, 11, 12, 13, 14], [14])])
def l5p.B9 : List Nat := [0, 0, 2, 0, 14, 31, 0, 64, 255, 0, 512, 0, 3584, 8191, 16383, 32767]
theorem l5p.tab9 : rtab .any (opsOf Tryz.f84 9) = l5p.T9 := by kernel_rfl
theorem l5p.bits9 : waitsOk l5p.T9.2 l5p.B9 = true := by kernel_rfl
theorem CX.drewN {base : Nat} {v : Value} {D : List Tr} {W : World} (h : CX base v D W) (m : Nat) : CX base v D (W.drewN m) := h.below (pw_below_drewN (Below.refl _ _) m)
structure PX (w : World) (base : Nat) (v : Value) (D : List Tr) (g4 g5 g8 g9 : Nat) (b0 b1 b2 b3 b4 b5 : Int) (s : Sl) (W : World) : Prop where
  x : CX base v D W
  h4 : W.heap[g4]? = some (.cells #[v] 28 (0, 0))
  h5 : W.heap[g5]? = some (.cells #[.int .i64 b0, .int .i64 b1, .int .i64 b2, .int .i64 b3, .int .i64 b4, .int .i64 b5] 75 (0, 0))
  h8 : W.heap[g8]? = some (.cells #[.slice none 0 0] 28 (0, 0))
  h9 : W.heap[g9]? = some (.cells #[.int .i64 s.f0, .int .i64 s.f1, .int .i64 s.f2, .int .i64 s.f3, .string s.f4, .int .i64 s.f5] 80 (0, 0))
  bl : Below w.heap.size w W
  l4 : w.heap.size ≤ g4
  l8 : w.heap.size ≤ g8
  l9 : w.heap.size ≤ g9
  n : g4 ≠ g8
theorem PX.drewN {w W : World} {base : Nat} {v : Value} {D : List Tr} {g4 g5 g8 g9 : Nat} {b0 b1 b2 b3 b4 b5 : Int} {s : Sl} (h : PX w base v D g4 g5 g8 g9 b0 b1 b2 b3 b4 b5 s W) (m : Nat) : PX w base v D g4 g5 g8 g9 b0 b1 b2 b3 b4 b5 s (W.drewN m) :=
  ⟨h.x.drewN m, blk_drewN h.h4 m, blk_drewN h.h5 m, blk_drewN h.h8 m, blk_drewN h.h9 m, pw_below_drewN h.bl m, h.l4, h.l8, h.l9, h.n⟩
theorem PX.below {w W W' : World} {base : Nat} {v : Value} {D : List Tr} {g4 g5 g8 g9 : Nat} {b0 b1 b2 b3 b4 b5 : Int} {s : Sl} (h : PX w base v D g4 g5 g8 g9 b0 b1 b2 b3 b4 b5 s W) (hb : Below W.heap.size W W') : PX w base v D g4 g5 g8 g9 b0 b1 b2 b3 b4 b5 s W' :=
  ⟨h.x.below hb, blk_below h.h4 hb, blk_below h.h5 hb, blk_below h.h8 hb, blk_below h.h9 hb, below_step h.bl hb, h.l4, h.l8, h.l9, h.n⟩
theorem gb_below {w W : World} (h : Below w.heap.size w W) (b : Option Nat) : w.grownBy W b := ⟨h.os, h.tape, h.output, h.size, fun k hk _ => h.block k hk⟩
theorem gb_set {w W : World} {b : Option Nat} (h : w.grownBy W b) {g : Nat} (hg : w.heap.size ≤ g ∨ b = some g) (o : Nat) (u : Value) : w.grownBy (W.setCell ⟨g, o, none⟩ u) b := by
  refine ⟨h.os, h.tape, h.output, by simpa using h.size, fun k hk hn => ?_⟩
  rw [Below.heap_setCell W ⟨g, o, none⟩ u k (fun e => ?_)]
  · exact h.block k hk hn
  · rcases hg with hg | hg
    · have e' : k = g := e
      omega
    · exact hn (by rw [hg, show k = g from e])
theorem CX.own {base : Nat} {v : Value} {D : List Tr} {W : World} (h : CX base v D W) {g t : Nat} {cs : Array Value} (hb : W.heap[g]? = some (.cells cs t (0, 0))) (ht : t ≠ 84 ∧ t ≠ 80) (o : Nat) (u : Value) : CX base v D (W.setCell ⟨g, o, none⟩ u) :=
  h.kept (gb_set (gb_below (Below.refl W.heap.size W) (some g)) (.inr rfl) o u) fun k t' cs' e hc => by
    cases e
    rw [hb] at hc
    injection hc with hc
    injection hc with _ hc
    rwa [← hc]
section
variable {W W' : World} {b : Nat} {u v : Value} {rows rs' : List (List Value)} {r : Option Nat}
theorem keep_ (h : (Kd.raw 3).R 84 W b (fun _ => True) v rows) (hg : W.grownBy W' r) (hn : ∀ k, v.ownBlock = some k → r = some k → False) : (Kd.raw 3).R 84 W' b (fun _ => True) v rows :=
  Kd.R_mono (Kd.R_grown (Kd.R_tight rfl h) hg fun k hk e => hn k hk.symm e.symm) fun _ _ => trivial
theorem new_ (h : (Kd.raw 3).R 84 W b (fun _ => True) v rows) (hn : ∃ b, u.ownBlock = some b ∧ W.heap.size ≤ b) {k : Nat} (hu : u.ownBlock = some k) (hv : v.ownBlock = some k) : False := by
  obtain ⟨cs, hc⟩ := Kd.R_typed h k hv
  obtain ⟨b, hb, hl⟩ := hn
  have := blk_lt hc
  rw [hu] at hb
  cases hb
  omega
theorem app_ {v0 : Value} (h : (Kd.raw 3).R 84 W b (fun _ => True) v rows) {k : Nat} (hd : v0.ownBlock = some k → False) (hat : u.ownBlock = v0.ownBlock ∨ ∃ b, u.ownBlock = some b ∧ W.heap.size ≤ b) (hv : v.ownBlock = some k) (hu : u.ownBlock = some k) : False := by
  rcases hat with e | hn
  · exact hd (e ▸ hu)
  · exact new_ h hn hu hv
end
set_option maxHeartbeats 8000000 in
set_option maxRecDepth 100000 in
theorem spec_l5Put.calls (base : Nat) (v : Value) (D : List Tr) (b0 b1 b2 b3 b4 b5 : Int) (nam : ByteArray) (at_ : Int) (w : World) (hx : CX base v D w) (hbs : base ≤ w.heap.size) (hl : D.length ≤ 1000000) (hs : ∀ t ∈ D, t.2.2.length ≤ 1000000) :
  Calls Tryz.prog 84 #[.agg #[v], .agg #[.int .i64 b0, .int .i64 b1, .int .i64 b2, .int .i64 b3, .int .i64 b4, .int .i64 b5], .string nam, .int .i64 at_] w fun e w' => ∃ v' : Value, e = .returned (.agg #[v']) ∧ ∃ D' : List Tr, CX base v' D' w' ∧ D'.map tc = insC (b0, b1) ⟨b4, b5, b2, b3, nam, at_⟩ (D.map tc) ∧ w.grownBy w' v.ownBlock := by
 have hu26 := Tryz.underlying28
 have hu45 := Tryz.underlying75
 have hu52 := Tryz.underlying80
 have hu56 := Tryz.underlying84
 obtain ⟨A, c, hv⟩ := hx.slice
 subst hv
 have HX := ra hx
 have HBS := ra hbs
 have HL := ra hl
 have HSM := ra hs
 clear hx hbs hl hs
 go_enter Tryz.func84, Tryz.ntmps84
 go_upto_block 0 with (first | ((with_reducible refine gate_dst (N := 4) rfl ?_); refine be 4 #[.slice A D.length c] 28 ?_; intro g4 hg4 w2 h4 hb2; have K2 := ra hb2; have H4 := ra h4; have L4 := ra (Nat.le_of_eq hg4.symm); clear hg4 h4 hb2) | ((with_reducible refine gate_dst (N := 5) rfl ?_); refine be 5 #[.int .i64 b0, .int .i64 b1, .int .i64 b2, .int .i64 b3, .int .i64 b4, .int .i64 b5] 75 ?_; intro g5 hg5 w3 h5 hb3; have K3 := ra (below_step K2.out hb3); have I4 := bb H4.out hb3; have H5 := ra h5; clear hb3 h5 hg5 K2 H4) | ((with_reducible refine gate_dst (N := 8) rfl ?_); refine be 8 #[.slice none 0 0] 28 ?_; intro g8 hg8 w4 h8 hb4; have K4 := ra (below_step K3.out hb4); have J4 := bb I4.out hb4; have I5 := bb H5.out hb4; have H8 := ra h8; have N48 := ra (show g4 ≠ g8 from by rw [hg8]; exact Nat.ne_of_lt (blk_lt I4.out)); have L8 := ra (show w.heap.size ≤ g8 from by rw [hg8]; exact below_size K3.out); clear hb4 h8 hg8 K3 I4 H5; obtain ⟨za0, za1, za2, za3, za4, za5, _, _, _, _, _, _⟩ := zc6 I5) | ((with_reducible refine gate_dst (N := 9) rfl ?_); refine be 9 #[.int .i64 0, .int .i64 0, .int .i64 0, .int .i64 0, .string ⟨#[]⟩, .int .i64 0] 80 ?_; intro g9 hg9 w5 h9 hb5; have K5 := ra (below_step K4.out hb5); have M4 := bb J4.out hb5; have J5 := bb I5.out hb5; have I8 := bb H8.out hb5; have H9 := ra h9; have L9 := ra (show w.heap.size ≤ g9 from by rw [hg9]; exact below_size K4.out); have n49 := blk_lt J4.out; have n59 := blk_lt I5.out; have n89 := blk_lt H8.out; rw [← hg9] at n49 n59 n89; have N9 := ra (show g9 ≠ g4 ∧ g9 ≠ g5 ∧ g9 ≠ g8 from ⟨Nat.ne_of_gt n49, Nat.ne_of_gt n59, Nat.ne_of_gt n89⟩); clear n49 n59 n89 hb5 h9 hg9 K4 J4 I5 H8; obtain ⟨zb0, zb1, zb2, zb3, zb4, zb5, zf0, zf1, zf2, zf3, zf4, zf5⟩ := zc6 H9))
 obtain ⟨w6, hw6⟩ : ∃ w6 : World, w6 = (((((w5.setCell ⟨g9, 0, none⟩ (.int .i64 b4)).setCell ⟨g9, 1, none⟩ (.int .i64 b5)).setCell ⟨g9, 2, none⟩ (.int .i64 b2)).setCell ⟨g9, 3, none⟩ (.int .i64 b3)).setCell ⟨g9, 4, none⟩ (.string nam)).setCell ⟨g9, 5, none⟩ (.int .i64 at_) := ⟨_, rfl⟩
 rw [← hw6]
 have hw6' : w6 = set6 w5 g9 ⟨b4, b5, b2, b3, nam, at_⟩ := hw6
 have hb6 : Below w.heap.size w w6 := by rw [hw6]; exact below_set (below_set (below_set (below_set (below_set (below_set K5.out L9.out) L9.out) L9.out) L9.out) L9.out) L9.out
 have HP := ra (show PX w base (.slice A D.length c) D g4 g5 g8 g9 b0 b1 b2 b3 b4 b5 ⟨b4, b5, b2, b3, nam, at_⟩ w6 from ⟨HX.out.below hb6, by rw [hw6', set6_far N9.out.1]; exact M4.out, by rw [hw6', set6_far N9.out.2.1]; exact J5.out, by rw [hw6', set6_far N9.out.2.2]; exact I8.out, by rw [hw6']; exact set6_at H9.out, hb6, L4.out, L8.out, L9.out, N48.out⟩)
 clear hw6 hw6' hb6 K5 M4 J5 I8 H9 L4 L8 L9 N48 N9 za0 za1 za2 za3 za4 za5 zb0 zb1 zb2 zb3 zb4 zb5 zf0 zf1 zf2 zf3 zf4 zf5
 go_cut [10] (fun s10 wc => ∃ (i m : Nat), s10 = .int .i64 (i : Int) ∧ wc = w6.drewN m ∧ Aside0 (i ≤ D.length ∧ (∀ (j : Nat) t, j < i → D[j]? = some t → clt t.1 (b0, b1) = true) ∧ ∀ t, D[i]? = some t → clt t.1 (b0, b1) = false))
 case first =>
  go_wp2_with fail
  go_loopg [10] D.length (fun kx s10 wr => ∃ (i m : Nat), s10 = .int .i64 (i : Int) ∧ wr = w6.drewN m ∧ Aside0 (i ≤ D.length ∧ D.length - i ≤ kx ∧ ∀ (j : Nat) t, j < i → D[j]? = some t → clt t.1 (b0, b1) = true))
  case atStart => exact ⟨0, 0, rfl, rfl, ⟨Nat.zero_le _, Nat.le_refl _, fun j t hj => by omega⟩⟩
  case round =>
   obtain ⟨i, m, rfl, rfl, HI⟩ := hrel
   go_wp2
   have hz4 : w6.cell? ⟨g4, 0, none⟩ = some (.slice A D.length c) := (blk_cell HP.out.h4 0).trans rfl
   have hz50 : w6.cell? ⟨g5, 0, none⟩ = some (.int .i64 b0) := (blk_cell HP.out.h5 0).trans rfl
   have hz51 : w6.cell? ⟨g5, 1, none⟩ = some (.int .i64 b1) := (blk_cell HP.out.h5 1).trans rfl
   by_cases hlt : i < D.length
   · obtain ⟨g, c', hv, hb, hl, _, e0, e1, _⟩ := HP.out.x.at hlt
     obtain ⟨rfl, rfl⟩ : A = some ⟨g, 0, none⟩ ∧ c = c' := by injection hv with h1 h2 h3; exact ⟨h1, h3⟩
     have hi1 : (i : Int) < (D.length : Int) := by omega
     have hi0 : (0 : Int) ≤ (i : Int) := by omega
     have HD := ra (show D[i]? = some D[i] from List.getElem?_eq_getElem hlt)
     generalize D[i] = t at e0 e1 HD
     by_cases k0 : t.1.1 < b0
     · have f0 : decide (t.1.1 < b0) = true := decide_eq_true k0
       have HC : Aside0 (clt t.1 (b0, b1) = true) := ⟨by rw [clt_eq, if_neg (by simp; omega)]; exact f0⟩
       clear k0
       go_quiet (fail)
       go_wp2
       go_roundg (D.length - (i + 1))
       case measure => have := HI.out; omega
       case rel =>
        refine ⟨i + 1, m + nq, by congr 1; unfold wrap64; have := HI.out; have := HL.out; omega, rfl, ⟨by have := HI.out; omega, by have := HI.out; omega, fun j u hj hu => ?_⟩⟩
        by_cases e : j = i
        · subst e
          rw [HD.out] at hu
          cases hu
          exact HC.out
        · exact HI.out.2.2 j u (by omega) hu
     · have f0 : decide (t.1.1 < b0) = false := decide_eq_false k0
       by_cases k1 : t.1.1 = b0
       · have f1 : decide (t.1.1 = b0) = true := decide_eq_true k1
         have f1' : (t.1.1 == b0) = true := by simpa using k1
         by_cases k2 : t.1.2 < b1
         · have f2 : decide (t.1.2 < b1) = true := decide_eq_true k2
           have HC : Aside0 (clt t.1 (b0, b1) = true) := ⟨by rw [clt_eq, if_pos k1]; exact f2⟩
           clear k0 k1 k2
           go_quiet (fail)
           go_wp2
           go_roundg (D.length - (i + 1))
           case measure => have := HI.out; omega
           case rel =>
            refine ⟨i + 1, m + nq, by congr 1; unfold wrap64; have := HI.out; have := HL.out; omega, rfl, ⟨by have := HI.out; omega, by have := HI.out; omega, fun j u hj hu => ?_⟩⟩
            by_cases e : j = i
            · subst e
              rw [HD.out] at hu
              cases hu
              exact HC.out
            · exact HI.out.2.2 j u (by omega) hu
         · have f2 : decide (t.1.2 < b1) = false := decide_eq_false k2
           have HC : Aside0 (clt t.1 (b0, b1) = false) := ⟨by rw [clt_eq, if_pos k1]; exact f2⟩
           clear k0 k1 k2
           go_quiet (fail)
           go_wp2
           go_meet
           exact ⟨i, m + nq, rfl, World.drewN_drewN _ _ _, ⟨HI.out.1, HI.out.2.2, fun u hu => by rw [HD.out] at hu; cases hu; exact HC.out⟩⟩
       · have f1 : decide (t.1.1 = b0) = false := decide_eq_false k1
         have f1' : (t.1.1 == b0) = false := by simpa using k1
         have HC : Aside0 (clt t.1 (b0, b1) = false) := ⟨by rw [clt_eq, if_neg k1]; exact f0⟩
         clear k0 k1
         go_quiet (fail)
         go_wp2
         go_meet
         exact ⟨i, m + nq, rfl, World.drewN_drewN _ _ _, ⟨HI.out.1, HI.out.2.2, fun u hu => by rw [HD.out] at hu; cases hu; exact HC.out⟩⟩
   · have hi1 : ¬ (i : Int) < (D.length : Int) := by omega
     have f0 : decide ((i : Int) < (D.length : Int)) = false := decide_eq_false hi1
     clear hi1
     go_quiet (fail)
     go_wp2
     go_meet
     exact ⟨i, m + nq, rfl, World.drewN_drewN _ _ _, ⟨HI.out.1, HI.out.2.2, fun u hu => by have := (List.getElem?_eq_some_iff.1 hu).1; omega⟩⟩
 case rest =>
  obtain ⟨i, m, rfl, rfl, HI⟩ := hcut
  have HP7 := ra (HP.out.drewN m)
  generalize w6.drewN m = w7 at HP7 ⊢
  clear HP
  rename_i hKK
  refine hKK _ _ ?_
  clear hKK
  go_step
  go_cut [] (fun wc => ∃ m : Nat, wc = w7.drewN m ∧ Aside0 (∀ t, D[i]? = some t → t.1 ≠ (b0, b1)))
  case first =>
   go_wp2
   have hz4 : w7.cell? ⟨g4, 0, none⟩ = some (.slice A D.length c) := (blk_cell HP7.out.h4 0).trans rfl
   have hz50 : w7.cell? ⟨g5, 0, none⟩ = some (.int .i64 b0) := (blk_cell HP7.out.h5 0).trans rfl
   have hz51 : w7.cell? ⟨g5, 1, none⟩ = some (.int .i64 b1) := (blk_cell HP7.out.h5 1).trans rfl
   by_cases hlt : i < D.length
   · obtain ⟨g, c', hv, hb, hl, htg, e0, e1, e2, hf⟩ := HP7.out.x.at hlt
     obtain ⟨rfl, rfl⟩ : A = some ⟨g, 0, none⟩ ∧ c = c' := by injection hv with h1 h2 h3; exact ⟨h1, h3⟩
     have hi1 : (i : Int) < (D.length : Int) := by omega
     have hi0 : (0 : Int) ≤ (i : Int) := by omega
     have HD := ra (show D[i]? = some D[i] from List.getElem?_eq_getElem hlt)
     have E2 := ra e2
     have HF := ra hf
     have HG := ra (And.intro hb (And.intro hl htg))
     clear e2 hf hb hl htg hv
     generalize hDi : D[i] = t at e0 e1 HD E2
     have HDI := ra hDi
     clear hDi
     by_cases k1 : t.1.1 = b0
     · have f1 : decide (t.1.1 = b0) = true := decide_eq_true k1
       have f1' : (t.1.1 == b0) = true := by simpa using k1
       by_cases k2 : t.1.2 = b1
       · have f2 : decide (t.1.2 = b1) = true := decide_eq_true k2
         have f2' : (t.1.2 == b1) = true := by simpa using k2
         have HC : Aside0 (t.1 = (b0, b1)) := ⟨by rw [← k1, ← k2]⟩
         clear k1 k2
         go_quiet (fail)
         go_wp2
         have HP8 := ra ((HP7.out.drewN nq).drewN 1)
         have hR8 := HP8.out.x.r i t HD.out
         obtain ⟨t1, ⟨A2, n2, c2⟩, xs⟩ := t
         have hR8 : Kd.R k80 80 ((w7.drewN nq).drewN 1) base (fun _ => True) (.slice A2 n2 c2) xs := hR8
         obtain ⟨rfl, hn2, hC8⟩ := Kd.R_reads' hR8
         have hxl := HSM.out _ (List.mem_of_getElem? HD.out)
         have hxl : xs.length ≤ 1000000 := hxl
         have HSL := ra (l5Slot_ok xs ⟨b4, b5, b2, b3, nam, at_⟩ hxl)
         have HN2 := ra hn2
         have HC8 := ra hC8
         clear hR8 hn2 hC8 hxl hz50 hz51 e0 e1
         have q0 := (blk_cell HP8.out.h4 0).trans rfl
         have q1 := (blk_cell HP8.out.h9 0).trans rfl
         have q2 := (blk_cell HP8.out.h9 1).trans rfl
         have q3 := (blk_cell HP8.out.h9 2).trans rfl
         have q4 := (blk_cell HP8.out.h9 3).trans rfl
         have q5 := (blk_cell HP8.out.h9 4).trans rfl
         have q6 := (blk_cell HP8.out.h9 5).trans rfl
         have q7 : ((w7.drewN nq).drewN 1).cell? ⟨g, i * 3 + 2, none⟩ = some (.slice A2 xs.length c2) := E2.out
         have q8 : ((w7.drewN nq).drewN 1).frozen? ⟨g, i * 3 + 2, none⟩ = false := HF.out
         refine start_ (n := 14) (S := fun w' => w'.cell? ⟨g4, 0, none⟩ = some (.slice (some ⟨g, 0, none⟩) D.length c) ∧ w'.cell? ⟨g9, 0, none⟩ = some (.int .i64 b4) ∧ w'.cell? ⟨g9, 1, none⟩ = some (.int .i64 b5) ∧ w'.cell? ⟨g9, 2, none⟩ = some (.int .i64 b2) ∧ w'.cell? ⟨g9, 3, none⟩ = some (.int .i64 b3) ∧ w'.cell? ⟨g9, 4, none⟩ = some (.string nam) ∧ w'.cell? ⟨g9, 5, none⟩ = some (.int .i64 at_) ∧ w'.cell? ⟨g, i * 3 + 2, none⟩ = some (.slice A2 xs.length c2)) (ds := [13]) #[false, false, false, false, false, false, false, false, false, false, false, false, false, false] (by kernel_rfl) rfl rfl ⟨q0, q1, q2, q3, q4, q5, q6, q7⟩ (fun hHeld => ?_)
         refine with_tabW l5p.tab6 l5p.bits6 (fun HT_ HW_ => ?_)
         have hw8 : (w7.drewN nq).drew = (w7.drewN nq).drewN 1 := rfl
         rw [hw8] at hHeld ⊢
         clear hw8 q0 q1 q2 q3 q4 q5 q6 q7 hz4
         have Q8 := ra q8
         clear q8 E2 HF HP7
         have HG8 : Aside0 (base ≤ g ∧ ∃ cs, ((w7.drewN nq).drewN 1).heap[g]? = some (.cells cs 84 (0, 0))) := ⟨HG.out.1, HG.out.2.2⟩
         clear HG
         generalize (w7.drewN nq).drewN 1 = w8 at HP8 HC8 Q8 HG8 hHeld ⊢
         refine pu 0 90 (bl 14 1) ?_
         refine pu 2 92 (bl 14 5) ?_
         refine pu 3 93 (bl 14 13) ?_
         refine pu 5 95 (bl 14 45) ?_
         refine tk 1 91 (bl 14 47) ?_ hHeld
         refine tk 4 94 (bl 14 63) ?_ hHeld
         refine pu 6 96 (bl 14 127) ?_
         refine pu 7 97 (bl 14 255) ?_
         refine tk 8 98 (bl 14 511) ?_ hHeld
         refine tk 9 99 (bl 14 1023) ?_ hHeld
         refine oe 10 100 (bl 14 2047) (fun K hK => ?_)
         refine gs Tryz.func117 #[.slice A2 xs.length c2, .agg #[.int .i64 b4, .int .i64 b5, .int .i64 b2, .int .i64 b3, .string nam, .int .i64 at_]] ?_
         with_reducible refine (spec_l5Slot.calls (xs.length + 1) _ _ xs b4 b5 b2 b3 nam at_ _ _ HC8.out HN2.out HSL.out).mono ?_
         rintro e w30 ⟨v181, rfl, ho0, hb⟩
         have ty : ∀ (b : Nat), b < w8.heap.size → w30.heap[b]? = w8.heap[b]? := fun b h => hb.block b h
         have hcel : ∀ (b o : Nat) (u : Value), w8.cell? ⟨b, o, none⟩ = some u → w30.cell? ⟨b, o, none⟩ = some u := fun b o u h => (hb.cell (World.block_lt_of_cell? _ _ h)).trans h
         refine ⟨_, rfl, ?_⟩
         obtain ⟨A3, c3, hv3⟩ := Kd.R_slice ho0
         obtain ⟨n3, hn3⟩ : ∃ n3, n3 = (insS ⟨b4, b5, b2, b3, nam, at_⟩ xs).length := ⟨_, rfl⟩
         rw [← hn3] at hv3
         subst hv3
         have P30 := HP8.out.below hb
         have hD : ∀ (j : Nat) p, D[j]? = some p → (tv p).ownBlock = none ∨ (tv p).ownBlock ≠ (Value.slice A3 n3 c3).ownBlock := fun j p hp => by
          cases e : (tv p).ownBlock with
          | none => exact .inl rfl
          | some k =>
           refine .inr fun e2 => ?_
           obtain ⟨cs, hc⟩ := Kd.R_typed (HP8.out.x.r j p hp) k e
           have h1 := blk_lt hc
           have h2 := Kd.R_base ho0 k e2.symm
           omega
         have P31 := P30.x.put (g := g) (c := c) (List.getElem?_eq_some_iff.1 HD.out).1 rfl (Kd.R_lower ho0 (Nat.le_trans HBS.out HP8.out.bl.size)) hD
         obtain ⟨hbg, csg, hcg⟩ := HG8.out
         have hng : ∀ (b t : Nat) (cs : Array Value), w8.heap[b]? = some (.cells cs t (0, 0)) → t ≠ 84 → g ≠ b := fun b t cs h ht e => by
          subst e
          rw [hcg] at h
          injection h with h
          injection h with _ h
          exact ht h.symm
         have n4 := hng _ _ _ HP8.out.h4 (by decide)
         have n8 := hng _ _ _ HP8.out.h8 (by decide)
         have r4 := blk_far P30.h4 n4.symm (p := ⟨g, i * 3 + 2, none⟩) (.slice A3 n3 c3)
         have r8 := blk_far P30.h8 n8.symm (p := ⟨g, i * 3 + 2, none⟩) (.slice A3 n3 c3)
         have hfz : w30.frozen? ⟨g, i * 3 + 2, none⟩ = false := by
          rw [← Q8.out]
          exact Below.frozen hb (blk_lt hcg)
         obtain ⟨D', hD'⟩ : ∃ D' : List Tr, D' = D.set i ((D[i]'(List.getElem?_eq_some_iff.1 HD.out).1).1, (A3, n3, c3), insS ⟨b4, b5, b2, b3, nam, at_⟩ xs) := ⟨_, rfl⟩
         rw [← hD'] at P31
         have hE : D'.map tc = insC (b0, b1) ⟨b4, b5, b2, b3, nam, at_⟩ (D.map tc) := by
          have hDi := (List.getElem?_eq_some_iff.1 HD.out).2
          have h1 : (D.map tc)[i]? = some (tc (t1, (A2, xs.length, c2), xs)) := by rw [List.getElem?_map, HD.out]; rfl
          have hc1 : t1 = (b0, b1) := HC.out
          rw [insC_old (b0, b1) _ (D.map tc) i _ (fun j y hj hy => by
            rw [List.getElem?_map] at hy
            cases h : D[j]? with
            | none => rw [h] at hy; cases hy
            | some u =>
              rw [h] at hy
              cases hy
              exact HI.out.2.1 j u hj h) h1 (by show clt t1 (b0, b1) = false; rw [hc1]; exact to_c.irr _) hc1, hD', List.map_set, hDi]
          rfl
         clear hD'
         have hgrow : w.grownBy (w30.setCell ⟨g, i * 3 + 2, none⟩ (.slice A3 n3 c3)) (some g) := gb_set (gb_below P30.bl _) (.inr rfl) _ _
         have W1 := ra P31.1
         have W2 := ra hE
         have W3 := ra hgrow
         have W4 := ra r4
         have W5 := ra r8
         have W6 := ra P30.l8
         obtain ⟨h0, h1, h2, h3, h4, h5, h6, h7⟩ := hHeld
         have held30 : w30.cell? ⟨g4, 0, none⟩ = some (.slice (some ⟨g, 0, none⟩) D.length c) ∧ w30.cell? ⟨g9, 0, none⟩ = some (.int .i64 b4) ∧ w30.cell? ⟨g9, 1, none⟩ = some (.int .i64 b5) ∧ w30.cell? ⟨g9, 2, none⟩ = some (.int .i64 b2) ∧ w30.cell? ⟨g9, 3, none⟩ = some (.int .i64 b3) ∧ w30.cell? ⟨g9, 4, none⟩ = some (.string nam) ∧ w30.cell? ⟨g9, 5, none⟩ = some (.int .i64 at_) ∧ w30.cell? ⟨g, i * 3 + 2, none⟩ = some (.slice A2 xs.length c2) := ⟨hcel _ _ _ h0, hcel _ _ _ h1, hcel _ _ _ h2, hcel _ _ _ h3, hcel _ _ _ h4, hcel _ _ _ h5, hcel _ _ _ h6, hcel _ _ _ h7⟩
         clear P31 hE hgrow r4 r8 hD hng hn3 ho0 hb ty hcel hcg hbg h0 h1 h2 h3 h4 h5 h6 h7 P30 HSL HG8 HP8 HC8 HN2 HDI HI HD HC n4 n8 Q8
         refine hK.out _ _ held30 (fun hHeld => ?_)
         clear hK K held30
         refine nm 100 ?_
         refine pu 11 101 (bl 14 4095) ?_
         refine pu 12 102 (bl 14 8191) ?_
         refine last_ (i := 13) (N := none) #[true, true, true, true, true, true, true, true, true, true, true, true, true, true] rfl rfl (one_of HT_.out (by kernel_rfl)) (by decide) (fun K hK => ?_)
         refine skip_ (w1 := ?_) (by rfl) rfl ?_ ?_
         rotate_left
         · go_simp
           rfl
         refine hK.out _ _ ?_
         clear hK K
         refine done_ (done_of HT_.out (by kernel_rfl)) ?_
         clear hHeld hfz HT_ HW_
         generalize w30.setCell ⟨g, i * 3 + 2, none⟩ (.slice A3 n3 c3) = w31 at W1 W3 W4 W5 ⊢
         obtain ⟨z4, _⟩ := zc1 W4
         obtain ⟨z8, z8f⟩ := zc1 W5
         go_wp2
         have hW : (w31.setCell ⟨g8, 0, none⟩ (.slice (some ⟨g, 0, none⟩) D.length c)).heap[g8]? = some (.cells #[.slice (some ⟨g, 0, none⟩) D.length c] 28 (0, 0)) := Z.bp W5
         refine bodyPost_ret (results_cell_row rfl _ _ g8 28 #[.slice (some ⟨g, 0, none⟩) D.length c] (0, 0) _ rfl hW Tryz.underlying28 rfl (by kernel_rfl)) rfl ?_
         exact ⟨_, re, D', W1.out.own W5.out (by decide) _ _, W2.out, gb_set W3.out (.inl W6.out) _ _⟩
       · have f2 : decide (t.1.2 = b1) = false := decide_eq_false k2
         have f2' : (t.1.2 == b1) = false := by simpa using k2
         have HC : Aside0 (t.1 ≠ (b0, b1)) := ⟨fun e => k2 (by rw [e])⟩
         clear k1 k2
         go_quiet (fail)
         go_wp2
         go_meet
         exact ⟨nq, rfl, ⟨fun u hu => by rw [HD.out] at hu; cases hu; exact HC.out⟩⟩
     · have f1 : decide (t.1.1 = b0) = false := decide_eq_false k1
       have f1' : (t.1.1 == b0) = false := by simpa using k1
       have HC : Aside0 (t.1 ≠ (b0, b1)) := ⟨fun e => k1 (by rw [e])⟩
       clear k1
       go_quiet (fail)
       go_wp2
       go_meet
       exact ⟨nq, rfl, ⟨fun u hu => by rw [HD.out] at hu; cases hu; exact HC.out⟩⟩
   · have hi1 : ¬ (i : Int) < (D.length : Int) := by omega
     have f0 : decide ((i : Int) < (D.length : Int)) = false := decide_eq_false hi1
     clear hi1
     go_quiet (fail)
     go_wp2
     go_meet
     exact ⟨nq, rfl, ⟨fun u hu => by have := (List.getElem?_eq_some_iff.1 hu).1; omega⟩⟩
  case rest =>
   obtain ⟨m, rfl, HNE⟩ := hcut
   have HP8 := ra (HP7.out.drewN m)
   generalize w7.drewN m = w8 at HP8 ⊢
   clear HP7
   have hz50 : w8.cell? ⟨g5, 0, none⟩ = some (.int .i64 b0) := (blk_cell HP8.out.h5 0).trans rfl
   have hz51 : w8.cell? ⟨g5, 1, none⟩ = some (.int .i64 b1) := (blk_cell HP8.out.h5 1).trans rfl
   have q1 := (blk_cell HP8.out.h9 0).trans rfl
   have q2 := (blk_cell HP8.out.h9 1).trans rfl
   have q3 := (blk_cell HP8.out.h9 2).trans rfl
   have q4 := (blk_cell HP8.out.h9 3).trans rfl
   have q5 := (blk_cell HP8.out.h9 4).trans rfl
   have q6 := (blk_cell HP8.out.h9 5).trans rfl
   go_upto_region 9 with fail
   obtain ⟨g11, hg11⟩ : ∃ g11 : Nat, g11 = w8.heap.size + 1 := ⟨_, rfl⟩
   obtain ⟨gs, hgs⟩ : ∃ gs : Nat, gs = w8.heap.size := ⟨_, rfl⟩
   obtain ⟨w9, hw9⟩ : ∃ w9 : World, w9 = (w8.alloc (.cells #[.int .i64 b4, .int .i64 b5, .int .i64 b2, .int .i64 b3, .string nam, .int .i64 at_] 80)).alloc (.cells #[.int .i64 b0, .int .i64 b1, .slice (some ⟨w8.heap.size, 0, none⟩) 1 1] 84) := ⟨_, rfl⟩
   rw [← hw9, ← hg11]
   have hB1 : w9.heap[gs]? = some (.cells #[.int .i64 b4, .int .i64 b5, .int .i64 b2, .int .i64 b3, .string nam, .int .i64 at_] 80 (0, 0)) := by rw [hw9, hgs]; exact blk_alloc (Go.MapKept.heap_alloc w8 _).1 _
   have hB2 : w9.heap[g11]? = some (.cells #[.int .i64 b0, .int .i64 b1, .slice (some ⟨gs, 0, none⟩) 1 1] 84 (0, 0)) := by
    have h := (Go.MapKept.heap_alloc (w8.alloc (.cells #[.int .i64 b4, .int .i64 b5, .int .i64 b2, .int .i64 b3, .string nam, .int .i64 at_] 80)) (.cells #[.int .i64 b0, .int .i64 b1, .slice (some ⟨w8.heap.size, 0, none⟩) 1 1] 84)).1
    rw [show (w8.alloc (.cells #[.int .i64 b4, .int .i64 b5, .int .i64 b2, .int .i64 b3, .string nam, .int .i64 at_] 80)).heap.size = w8.heap.size + 1 by simp] at h
    rw [hw9, hg11, hgs]
    exact h
   have hb9 : Below w8.heap.size w8 w9 := by rw [hw9]; exact below_alloc (below_alloc (Below.refl _ _) _) _
   have hnw : ∀ (j : Nat) p, D[j]? = some p → (tv ((b0, b1), (some ⟨gs, 0, none⟩, 1, 1), [(⟨b4, b5, b2, b3, nam, at_⟩ : Sl)])).ownBlock = none ∨ (tv ((b0, b1), (some ⟨gs, 0, none⟩, 1, 1), [(⟨b4, b5, b2, b3, nam, at_⟩ : Sl)])).ownBlock ≠ (tv p).ownBlock := fun j p hp => by
    refine .inr fun e => ?_
    obtain ⟨cs, hc⟩ := Kd.R_typed (HP8.out.x.r j p hp) gs e.symm
    have := blk_lt hc
    omega
   have hsl : Kd.R k80 80 w9 base (fun _ => True) (.slice (some ⟨gs, 0, none⟩) 1 1) [(⟨b4, b5, b2, b3, nam, at_⟩ : Sl)] :=
    own_slots ⟨rfl, .inr ⟨gs, 1, _, rfl, by rw [hgs]; exact Nat.le_trans HBS.out HP8.out.bl.size, hB1, Nat.le_refl _, by decide, rfl, rfl⟩⟩
   have HP10 := ra ((HP8.out.below hb9).drewN 1)
   have T0 := ra hnw
   have T1 := ra (show Kd.R k80 80 (w9.drewN 1) base (fun _ => True) (.slice (some ⟨gs, 0, none⟩) 1 1) [(⟨b4, b5, b2, b3, nam, at_⟩ : Sl)] from Kd.R_below hsl (pw_below_drewN (Below.refl _ _) 1))
   have T2 := ra (show (w9.drewN 1).heap[g11]? = some (.cells #[.int .i64 b0, .int .i64 b1, .slice (some ⟨gs, 0, none⟩) 1 1] 84 (0, 0)) from hB2)
   clear hw9 hg11 hgs hB1 hB2 hb9 hnw hsl HP8 q1 q2 q3 q4 q5 q6 hz50 hz51
   have q0 := (blk_cell HP10.out.h4 0).trans rfl
   have q1 := (blk_cell T2.out 0).trans rfl
   have q2 := (blk_cell T2.out 1).trans rfl
   have q3 := (blk_cell T2.out 2).trans rfl
   refine start_ (n := 16) (S := fun w' => w'.cell? ⟨g4, 0, none⟩ = some (.slice A D.length c) ∧ w'.cell? ⟨g11, 0, none⟩ = some (.int .i64 b0) ∧ w'.cell? ⟨g11, 1, none⟩ = some (.int .i64 b1) ∧ w'.cell? ⟨g11, 2, none⟩ = some (.slice (some ⟨gs, 0, none⟩) 1 1)) (ds := []) (bl 16 0) (by kernel_rfl) rfl rfl ⟨q0, q1, q2, q3⟩ (fun hHeld => ?_)
   refine with_tabW l5p.tab9 l5p.bits9 (fun HT_ HW_ => ?_)
   have hw9 : w9.drew = w9.drewN 1 := rfl
   rw [hw9] at hHeld ⊢
   clear hw9 q0 q1 q2 q3
   generalize w9.drewN 1 = w10 at HP10 T1 T2 hHeld ⊢
   have hi0 : (0 : Int) ≤ (i : Int) := by omega
   have hin : (i : Int) ≤ (D.length : Int) := by have := HI.out.1; omega
   obtain ⟨i0, hinf, _, hsz, _⟩ := info_parts info84
   have hR10 := own_raw HP10.out.x.o
   have hrd := Kd.R_reads' hR10
   have hroom : D.length ≤ c := hrd.2.1
   have hCC : (Kd.raw 3).C w10 A D.length (D.map encC) := by have := hrd.2.2; rwa [List.length_map] at this
   have hcut1 := cut_to (P := Tryz.prog) 26 84 .i64 Tryz.underlying26 hinf A D.length c (i : Int) hi0 hin hroom
   have hcut2 := cut_from (P := Tryz.prog) 26 84 .i64 Tryz.underlying26 hinf 3 hsz A D.length c (i : Int) hi0 hin
   rw [show ((i : Int)).toNat = i from rfl] at hcut1 hcut2
   obtain ⟨A68, hA68⟩ : ∃ A1, A1 = (if c = i then A else A.map (·.add (i * 3))) := ⟨_, rfl⟩
   obtain ⟨c68, hc68⟩ : ∃ c1, c1 = c - i := ⟨_, rfl⟩
   rw [← hA68, ← hc68] at hcut2
   have hTK : ∀ w', Below w10.heap.size w10 w' → ReadsRow ((Kd.raw 3).K w10) 3 w' A i ((D.map encC).take i) := fun w' hb => by
    have h := Kd.C_below (Kd.C_take (m := i) (show (Kd.raw 3).C w10 A (D.map encC).length (D.map encC) by rw [List.length_map]; exact hCC) (by rw [List.length_map]; exact HI.out.1)) hb
    rw [List.length_take, List.length_map, Nat.min_eq_left HI.out.1] at h
    exact h
   have hTD : ∀ w', Below w10.heap.size w10 w' → ReadsRow ((Kd.raw 3).K w10) 3 w' A68 (D.length - i) ((D.map encC).drop i) := fun w' hb => by
    have hF := Kd.R_F hR10
    have h := Kd.F_cut (m := i) (c := c) (show (Kd.raw 3).F w10 (fun _ => True) A (D.map encC).length (D.map encC) by rw [List.length_map]; exact hF) (by rw [List.length_map]; exact HI.out.1) (by rw [List.length_map]; exact hroom)
    have h := Kd.C_below (h w10 fun _ _ _ => rfl) hb
    rw [List.length_drop, List.length_map] at h
    rw [hA68]
    exact h
   have hS : ∀ w', Below w10.heap.size w10 w' → w'.cell? ⟨g4, 0, none⟩ = some (.slice A D.length c) ∧ w'.cell? ⟨g11, 0, none⟩ = some (.int .i64 b0) ∧ w'.cell? ⟨g11, 1, none⟩ = some (.int .i64 b1) ∧ w'.cell? ⟨g11, 2, none⟩ = some (.slice (some ⟨gs, 0, none⟩) 1 1) := fun w' hb => by
    have h4 := blk_below HP10.out.h4 hb
    have h11 := blk_below T2.out hb
    exact ⟨(blk_cell h4 0).trans rfl, (blk_cell h11 0).trans rfl, (blk_cell h11 1).trans rfl, (blk_cell h11 2).trans rfl⟩
   have hB0 : Below w10.heap.size w10 w10 := Below.refl _ _
   clear hrd hCC hR10 hA68 hc68
   refine pu 1 112 (bl 16 2) ?_
   refine pu 3 114 (bl 16 10) ?_
   refine pu 9 120 (bl 16 522) ?_
   refine pu 11 122 (bl 16 2570) ?_
   refine tk 2 113 (bl 16 2574) ?_ hHeld
   refine pu 4 115 (bl 16 2590) ?_
   refine tk 6 117 (bl 16 2654) ?_ hHeld
   refine tk 10 121 (bl 16 3678) ?_ hHeld
   refine pu 12 123 (bl 16 7774) ?_
   refine join_ (σ := Value × Value × Value) 4 #[true, true, true, true, true, true, true, true, false, true, true, true, true, false, false, false] (fun s_ => [(111, s_.1), (116, s_.2.1), (118, s_.2.2)]) (fun s_ w' => (w'.cell? ⟨g4, 0, none⟩ = some (.slice A D.length c) ∧ w'.cell? ⟨g11, 0, none⟩ = some (.int .i64 b0) ∧ w'.cell? ⟨g11, 1, none⟩ = some (.int .i64 b1) ∧ w'.cell? ⟨g11, 2, none⟩ = some (.slice (some ⟨gs, 0, none⟩) 1 1)) ∧ Below w10.heap.size w10 w' ∧ (Kd.raw 3).R 84 w' w10.heap.size (fun _ => True) s_.2.1 ((D.map encC).take i) ∧ (Kd.raw 3).R 84 w' w10.heap.size (fun _ => True) s_.2.2 [[.int .i64 b0, .int .i64 b1, .slice (some ⟨gs, 0, none⟩) 1 1]] ∧ ∀ k, s_.2.2.ownBlock = some k → s_.2.1.ownBlock ≠ some k) ?_ ?_
   rotate_left
   · intro hCont
     refine two_ (i := 0) (j := 7) (Ni := some 111) (Nj := some 118) #[true, true, true, true, true, false, true, false, false, true, true, true, true, false, false, false] #[false, true, true, true, true, false, true, true, false, true, true, true, true, false, false, false] rfl rfl rfl rfl (two_of HT_.out (by kernel_rfl)) (by decide) (by decide) (fun K hK => ?_) (fun K hK => ?_)
     · skip
       refine Kd.R_lit_step (Kd.raw 3) (w0 := w10) w10.heap.size 84 ?hg (N := 111) ?hd (xs := ([] : List (List Value))) (inner := []) (ok := fun _ => True) (okp := fun _ => True) ?hr ?hp (fun _ hk => hk) trivial hB0 hB0.size (by simp) ?_
       (case hd => rfl); (case hg => rfl); (case hr => first | (go_simp; done) | (go_simp; rfl)); (case hp => exact Reps.none _ _)
       intro v0 wa hv0 hBwa hgwa hnwa
       refine hK.out _ _ (hS _ hBwa) (fun hHeld => ?_)
       clear hK K
       refine nm 111 ?_
       refine two_ (i := 5) (j := 7) (Ni := some 116) (Nj := some 118) #[true, true, true, true, true, true, true, false, false, true, true, true, true, false, false, false] #[true, true, true, true, true, false, true, true, false, true, true, true, true, false, false, false] rfl rfl rfl rfl (two_of HT_.out (by kernel_rfl)) (by decide) (by decide) (fun K hK => ?_) (fun K hK => ?_)
       · skip
         refine Kd.R_append_rows_step (Kd.raw 3) (Rr := (Kd.raw 3).K w10) (w0 := w10) w10.heap.size rfl (.tmp 111) (.tmp 115) 26 84 _ _ rfl Tryz.underlying26 info84 rfl (by decide) (by decide) v0 [] ((D.map encC).take i) A i c (fun _ => True) (fun _ => False) rfl rfl hv0 (hTK _ hBwa) (fun _ _ h => h) (fun _ hk => hk.elim) (fun _ _ => trivial) hBwa hBwa.size (by have := HI.out.1; have := HL.out; simp; omega) ?_
         intro v1 wb hv1 hBwb hgwb hat
         refine hK.out _ _ (hS _ hBwb) (fun hHeld => ?_)
         clear hK K
         refine nm 116 ?_
         refine oe 7 118 (bl 16 7935) (fun K hK => ?_)
         refine Kd.R_lit_step (Kd.raw 3) (w0 := w10) w10.heap.size 84 ?hg (N := 118) ?hd (xs := [([.int .i64 b0, .int .i64 b1, .slice (some ⟨gs, 0, none⟩) 1 1] : List Value)]) (inner := [.int .i64 b0, .int .i64 b1, .slice (some ⟨gs, 0, none⟩) 1 1]) (ok := fun _ => True) (okp := fun _ => True) ?hr ?hp (fun _ hk => hk) trivial hBwb hBwb.size (by simp) ?_
         (case hd => rfl); (case hg => rfl); (case hr => first | (go_simp; done) | (go_simp; rfl)); (case hp => exact Reps.c3 ⟨rfl, rfl, by intro u hu; simp at hu; rcases hu with rfl | rfl | rfl <;> rfl⟩ (Reps.none _ _))
         intro v2 wc hv2 hBwc hgwc hnwc
         refine hK.out _ _ (hS _ hBwc) (fun hHeld => ?_)
         clear hK K
         refine nm 118 ?_
         exact norm_ (by simp only [putAll, Act.put, List.setIfInBounds_toArray, List.set_cons_zero, List.set_cons_succ]) (hCont (v0, v1, v2) _ ⟨hHeld, hBwc, keep_ hv1 hgwc (fun _ _ e => by cases e), hv2, fun k hk e => new_ hv1 hnwc hk e⟩)
       · skip
         refine Kd.R_lit_step (Kd.raw 3) (w0 := w10) w10.heap.size 84 ?hg (N := 118) ?hd (xs := [([.int .i64 b0, .int .i64 b1, .slice (some ⟨gs, 0, none⟩) 1 1] : List Value)]) (inner := [.int .i64 b0, .int .i64 b1, .slice (some ⟨gs, 0, none⟩) 1 1]) (ok := fun _ => True) (okp := fun _ => True) ?hr ?hp (fun _ hk => hk) trivial hBwa hBwa.size (by simp) ?_
         (case hd => rfl); (case hg => rfl); (case hr => first | (go_simp; done) | (go_simp; rfl)); (case hp => exact Reps.c3 ⟨rfl, rfl, by intro u hu; simp at hu; rcases hu with rfl | rfl | rfl <;> rfl⟩ (Reps.none _ _))
         intro v2 wb hv2 hBwb hgwb hnwb
         refine hK.out _ _ (hS _ hBwb) (fun hHeld => ?_)
         clear hK K
         refine nm 118 ?_
         refine oe 5 116 (bl 16 7935) (fun K hK => ?_)
         have hv0a := hv0
         have hv0 := keep_ hv0 hgwb (fun _ _ e => by cases e)
         refine Kd.R_append_rows_step (Kd.raw 3) (Rr := (Kd.raw 3).K w10) (w0 := w10) w10.heap.size rfl (.tmp 111) (.tmp 115) 26 84 _ _ rfl Tryz.underlying26 info84 rfl (by decide) (by decide) v0 [] ((D.map encC).take i) A i c (fun _ => True) (fun _ => False) rfl rfl hv0 (hTK _ hBwb) (fun _ _ h => h) (fun _ hk => hk.elim) (fun _ _ => trivial) hBwb hBwb.size (by have := HI.out.1; have := HL.out; simp; omega) ?_
         intro v1 wc hv1 hBwc hgwc hat
         refine hK.out _ _ (hS _ hBwc) (fun hHeld => ?_)
         clear hK K
         refine nm 116 ?_
         exact norm_ (by simp only [putAll, Act.put, List.setIfInBounds_toArray, List.set_cons_zero, List.set_cons_succ]) (hCont (v0, v1, v2) _ ⟨hHeld, hBwc, hv1, keep_ hv2 hgwc (fun k hk e => new_ hv0a hnwb hk e), fun k hk e => app_ hv2 (fun e2 => new_ hv0a hnwb hk e2) hat hk e⟩)
     · skip
       refine Kd.R_lit_step (Kd.raw 3) (w0 := w10) w10.heap.size 84 ?hg (N := 118) ?hd (xs := [([.int .i64 b0, .int .i64 b1, .slice (some ⟨gs, 0, none⟩) 1 1] : List Value)]) (inner := [.int .i64 b0, .int .i64 b1, .slice (some ⟨gs, 0, none⟩) 1 1]) (ok := fun _ => True) (okp := fun _ => True) ?hr ?hp (fun _ hk => hk) trivial hB0 hB0.size (by simp) ?_
       (case hd => rfl); (case hg => rfl); (case hr => first | (go_simp; done) | (go_simp; rfl)); (case hp => exact Reps.c3 ⟨rfl, rfl, by intro u hu; simp at hu; rcases hu with rfl | rfl | rfl <;> rfl⟩ (Reps.none _ _))
       intro v2 wa hv2 hBwa hgwa hnwa
       refine hK.out _ _ (hS _ hBwa) (fun hHeld => ?_)
       clear hK K
       refine nm 118 ?_
       refine oe 0 111 (bl 16 7903) (fun K hK => ?_)
       refine Kd.R_lit_step (Kd.raw 3) (w0 := w10) w10.heap.size 84 ?hg (N := 111) ?hd (xs := ([] : List (List Value))) (inner := []) (ok := fun _ => True) (okp := fun _ => True) ?hr ?hp (fun _ hk => hk) trivial hBwa hBwa.size (by simp) ?_
       (case hd => rfl); (case hg => rfl); (case hr => first | (go_simp; done) | (go_simp; rfl)); (case hp => exact Reps.none _ _)
       intro v0 wb hv0 hBwb hgwb hnwb
       refine hK.out _ _ (hS _ hBwb) (fun hHeld => ?_)
       clear hK K
       refine nm 111 ?_
       refine oe 5 116 (bl 16 7935) (fun K hK => ?_)
       have hv2a := hv2
       have hv2 := keep_ hv2 hgwb (fun _ _ e => by cases e)
       refine Kd.R_append_rows_step (Kd.raw 3) (Rr := (Kd.raw 3).K w10) (w0 := w10) w10.heap.size rfl (.tmp 111) (.tmp 115) 26 84 _ _ rfl Tryz.underlying26 info84 rfl (by decide) (by decide) v0 [] ((D.map encC).take i) A i c (fun _ => True) (fun _ => False) rfl rfl hv0 (hTK _ hBwb) (fun _ _ h => h) (fun _ hk => hk.elim) (fun _ _ => trivial) hBwb hBwb.size (by have := HI.out.1; have := HL.out; simp; omega) ?_
       intro v1 wc hv1 hBwc hgwc hat
       refine hK.out _ _ (hS _ hBwc) (fun hHeld => ?_)
       clear hK K
       refine nm 116 ?_
       exact norm_ (by simp only [putAll, Act.put, List.setIfInBounds_toArray, List.set_cons_zero, List.set_cons_succ]) (hCont (v0, v1, v2) _ ⟨hHeld, hBwc, hv1, keep_ hv2 hgwc (fun k hk e => new_ hv2a hnwb e hk), fun k hk e => app_ hv2 (fun e2 => new_ hv2a hnwb e2 hk) hat hk e⟩)
   rintro ⟨v0, v1, v2⟩ w11 ⟨hHeld, hB11, hv1, hv2, hap⟩
   obtain ⟨A2, c2, hv2s⟩ := Kd.R_slice hv2
   have hv2s : v2 = .slice A2 1 c2 := hv2s
   subst hv2s
   have hr2 := (Kd.R_reads' hv2).2.2
   refine norm_ (a' := ?_) ?_ ?_
   rotate_left
   · simp only [putAll, Act.put, List.setIfInBounds_toArray, List.set_cons_zero, List.set_cons_succ]
     rfl
   refine oe 8 119 (bl 16 8191) (fun K hK => ?_)
   refine Kd.R_append_rows_step (Kd.raw 3) (Rr := (Kd.raw 3).K w11) (w0 := w10) w10.heap.size rfl (.tmp 116) (.tmp 118) 26 84 _ _ rfl Tryz.underlying26 info84 rfl (by decide) (by decide) v1 ((D.map encC).take i) [[.int .i64 b0, .int .i64 b1, .slice (some ⟨gs, 0, none⟩) 1 1]] A2 1 c2 (fun _ => True) (fun _ => False) rfl rfl hv1 hr2 (fun _ _ h => h) (fun _ hk => hk.elim) (fun _ _ => trivial) hB11 hB11.size (by have := HI.out.1; have := HL.out; simp; omega) ?_
   intro v3 w12 hv3 hB12 hg12 hat3
   refine hK.out _ _ (hS _ hB12) (fun hHeld => ?_)
   clear hK K
   refine nm 119 ?_
   refine oe 13 124 (bl 16 16383) (fun K hK => ?_)
   refine Kd.R_append_rows_step (Kd.raw 3) (Rr := (Kd.raw 3).K w10) (w0 := w10) w10.heap.size rfl (.tmp 119) (.tmp 123) 26 84 _ _ rfl Tryz.underlying26 info84 rfl (by decide) (by decide) v3 ((D.map encC).take i ++ [[.int .i64 b0, .int .i64 b1, .slice (some ⟨gs, 0, none⟩) 1 1]]) ((D.map encC).drop i) A68 (D.length - i) c68 (fun _ => True) (fun _ => False) rfl rfl hv3 (hTD _ hB12) (fun _ _ h => h) (fun _ hk => hk.elim) (fun _ _ => trivial) hB12 hB12.size (by have := HI.out.1; have := HL.out; simp; omega) ?_
   intro v4 w13 hv4 hB13 hg13 hat4
   have hEE : (D.map encC).take i ++ [[.int .i64 b0, .int .i64 b1, .slice (some ⟨gs, 0, none⟩) 1 1]] ++ (D.map encC).drop i = (D.take i ++ ((b0, b1), (some ⟨gs, 0, none⟩, 1, 1), [(⟨b4, b5, b2, b3, nam, at_⟩ : Sl)]) :: D.drop i).map encC := by
    rw [List.map_append, List.map_cons, List.map_take, List.map_drop, List.append_assoc]
    rfl
   rw [hEE] at hv4
   have hbb : base ≤ w10.heap.size := Nat.le_trans HBS.out HP10.out.bl.size
   have hX := HP10.out.x.ins T1.out T0.out hB13 (v' := v4) (D' := D.take i ++ ((b0, b1), (some ⟨gs, 0, none⟩, 1, 1), [(⟨b4, b5, b2, b3, nam, at_⟩ : Sl)]) :: D.drop i) (by
     have h := List.perm_middle (l₁ := D.take i) (l₂ := D.drop i) (a := ((b0, b1), (some ⟨gs, 0, none⟩, 1, 1), [(⟨b4, b5, b2, b3, nam, at_⟩ : Sl)]))
     rwa [List.take_append_drop] at h) (by
     obtain ⟨h1, h3⟩ := raw_own hv4
     exact ⟨h1, h3.imp_right fun ⟨g, cap, cur, e, hb', hr⟩ => ⟨g, cap, cur, e, Nat.le_trans hbb hb', hr⟩⟩)
   have hE : (D.take i ++ ((b0, b1), (some ⟨gs, 0, none⟩, 1, 1), [(⟨b4, b5, b2, b3, nam, at_⟩ : Sl)]) :: D.drop i).map tc = insC (b0, b1) ⟨b4, b5, b2, b3, nam, at_⟩ (D.map tc) := by
    rw [insC_new (b0, b1) _ (D.map tc) i (by rw [List.length_map]; exact HI.out.1) (fun j y hj hy => by
      rw [List.getElem?_map] at hy
      cases h : D[j]? with
      | none => rw [h] at hy; cases hy
      | some u =>
        rw [h] at hy
        cases hy
        exact HI.out.2.1 j u hj h) (fun y hy => by
      rw [List.getElem?_map] at hy
      cases h : D[i]? with
      | none => rw [h] at hy; cases hy
      | some u =>
        rw [h] at hy
        cases hy
        exact ⟨HI.out.2.2 u h, HNE.out u h⟩), List.map_append, List.map_cons, List.map_take, List.map_drop]
    rfl
   obtain ⟨A4, c4, hv4s⟩ := hX.slice
   obtain ⟨D', hD'⟩ : ∃ D' : List Tr, D' = D.take i ++ ((b0, b1), (some ⟨gs, 0, none⟩, 1, 1), [(⟨b4, b5, b2, b3, nam, at_⟩ : Sl)]) :: D.drop i := ⟨_, rfl⟩
   rw [← hD'] at hX hE hv4s
   subst hv4s
   have hG13 : w.grownBy w13 (Value.slice A D.length c).ownBlock := gb_below (below_step HP10.out.bl hB13) _
   have W1 := ra hX
   have W2 := ra hE
   have W3 := ra hG13
   have W4 := ra (blk_below HP10.out.h4 hB13)
   have W5 := ra (blk_below HP10.out.h8 hB13)
   have W6 := ra (blk_below T2.out hB13)
   have W7 := ra (show g4 ≠ g8 ∧ g11 ≠ g8 ∧ w.heap.size ≤ g8 from ⟨HP10.out.n, fun e => by
    have h1 := HP10.out.h8
    rw [← e, T2.out] at h1
    injection h1 with h1
    injection h1 with _ h1
    exact absurd h1 (by decide), HP10.out.l8⟩)
   have hs13 := hS _ hB13
   clear hX hE hG13 hEE hv4 hD' hg13 hat4 hv3 hg12 hat3 hr2 hv1 hv2 hap hB12 hB11 hbb
   refine hK.out _ _ hs13 (fun hHeld => ?_)
   clear hK K hs13 hS hTK hTD T0 T1 T2 HP10 hB13 hB0
   refine nm 124 ?_
   refine pu 14 125 (bl 16 32767) ?_
   obtain ⟨z8, z8f⟩ := zc1 W5
   refine one_ (i := 15) (N := none) #[true, true, true, true, true, true, true, true, true, true, true, true, true, true, true, true] rfl rfl (one_of HT_.out (by kernel_rfl)) (by decide) (fun K hK => ?_)
   refine skip_ (w1 := ?_) (by rfl) rfl ?_ ?_
   rotate_left
   · go_simp
     rfl
   have k4 := blk_far W4.out (p := ⟨g8, 0, none⟩) W7.out.1 (.slice A4 D'.length c4)
   have k11 := blk_far W6.out (p := ⟨g8, 0, none⟩) W7.out.2.1 (.slice A4 D'.length c4)
   refine hK.out _ _ ⟨(blk_cell k4 0).trans rfl, (blk_cell k11 0).trans rfl, (blk_cell k11 1).trans rfl, (blk_cell k11 2).trans rfl⟩ (fun _ => ?_)
   clear hK K k4 k11
   refine done_ (done_of HT_.out (by kernel_rfl)) ?_
   go_wp2
   have hW : (w13.setCell ⟨g8, 0, none⟩ (.slice A4 D'.length c4)).heap[g8]? = some (.cells #[.slice A4 D'.length c4] 28 (0, 0)) := Z.bp W5
   refine bodyPost_ret (results_cell_row rfl _ _ g8 28 #[.slice A4 D'.length c4] (0, 0) _ rfl hW Tryz.underlying28 rfl (by kernel_rfl)) rfl ?_
   exact ⟨_, re, D', W1.out.own W5.out (by decide) _ _, W2.out, gb_set W3.out (.inl W7.out.2.2) _ _⟩
end Go.Proofs.YtgklmafdbgnohaaGreat.Ip
end
