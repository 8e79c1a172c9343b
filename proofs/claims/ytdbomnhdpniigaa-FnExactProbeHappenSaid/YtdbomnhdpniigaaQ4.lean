/- ProbeCut, the marks, ProbeWith, ProbeFree. No condition beside the sizes that are typed. -/
import Derived.Test.YtdbomnhdpniigaaQ2
import Derived.Test.YtdbomnhdpniigaaQ3s
namespace Go.Proofs.Ytdbomnhdpniigaa.Q
open Go.RowKit Go.Proofs.Ytdbomnhdpniigaa.PA Go.Proofs.YtdbomnhdpniigaaW.PrintWords Go.Proofs.YtdbomnhdpniigaaW.PrintLast Go.Proofs.YtdbomnhdpniigaaW.PrintMore

/-! ### Cut -/
def cutB (fr : Int) (b : S95) : S95 := ⟨b.f0, b.f1, b.f2, b.f3, mx b.f4 fr, b.f5⟩
def cutL (fr : Int) (l : List S95) : List S95 := (l.filter fun b => decide (fr ≤ b.f5)).map (cutB fr)
def cut (s : ByteArray) (l : List S95) (fr : Int) : ByteArray × List S95 := if tubeOk s l = true then (s, cutL fr l) else (⟨#[]⟩, [])
theorem cutL_yes {fr : Int} {b : S95} (r : List S95) (h : fr ≤ b.f5) : cutL fr (b :: r) = cutB fr b :: cutL fr r := by simp [cutL, h]
theorem cutL_no {fr : Int} {b : S95} (r : List S95) (h : ¬ fr ≤ b.f5) : cutL fr (b :: r) = cutL fr r := by simp [cutL, h]
theorem cutL_len (fr : Int) (l : List S95) : (cutL fr l).length ≤ l.length := by
  simp only [cutL, List.length_map]
  exact List.length_filter_le _ _
theorem cut_len (s : ByteArray) (l : List S95) (fr : Int) : (cut s l fr).2.length ≤ 40 := by
  unfold cut
  split
  · rename_i h
    exact Nat.le_trans (cutL_len fr l) (len_of_tube h).1
  · simp

/-! ### Marks -/
def markL : List S95 → Int → List S95
  | [], _ => []
  | _ :: r, k => ⟨k, k + 1, k + 1 + 1, k + 1 + 1 + 1, k + 1 + 1 + 1 + 1, k + 1 + 1 + 1 + 1 + 1⟩ :: markL r (k + 6)
theorem markL_len : ∀ (l : List S95) (k : Int), (markL l k).length = l.length
  | [], _ => rfl
  | _ :: r, k => by simp [markL, markL_len r]
theorem w1 {k : Int} (h0 : 0 ≤ k) (h : k ≤ 1000000000000000) : wrap64 (k + 1) = k + 1 := by
  unfold wrap64
  omega
theorem rd_set {l : List S95} {i : Nat} (h : i < l.length) (v : S95) : rd_T95 (l.set i v) (i : Int) = v := by
  unfold rd_T95
  simp [h]
theorem mark_l : ∀ (r : List S95) (pre : List S95) (K : Int), 0 ≤ K → K + 6 * r.length ≤ 100000000000000 → pre.length + r.length ≤ 100000000 →
    Ev (fun k => laws_markProbeBoxS.l0 k (pre ++ r) K (pre.length : Int)) (K + 6 * r.length, pre ++ markL r K)
  | [], pre, K, _, _, _ => by
    refine Ev.step (f := fun _ => some (K, pre ++ [])) (fun k => ?_) (Ev.is (by simp [markL]))
    simp only [laws_markProbeBoxS.l0]
    rw [if_neg (by simp)]
  | x :: r, pre, K, h0, h1, h2 => by
    simp only [List.length_cons] at h1 h2
    have ih := mark_l r (pre ++ [⟨K, K + 1, K + 1 + 1, K + 1 + 1 + 1, K + 1 + 1 + 1 + 1, K + 1 + 1 + 1 + 1 + 1⟩]) (K + 6) (by omega) (by omega) (by simp; omega)
    refine Ev.step (f := fun k => laws_markProbeBoxS.l0 k ((pre ++ [⟨K, K + 1, K + 1 + 1, K + 1 + 1 + 1, K + 1 + 1 + 1 + 1, K + 1 + 1 + 1 + 1 + 1⟩]) ++ r) (K + 6) (((pre ++ [(⟨K, K + 1, K + 1 + 1, K + 1 + 1 + 1, K + 1 + 1 + 1 + 1, K + 1 + 1 + 1 + 1 + 1⟩ : S95)]).length : Nat) : Int)) (fun k => ?_) (Ev.eq ih ?_)
    · have hp : pre.length < (pre ++ x :: r).length := by simp
      simp only [laws_markProbeBoxS.l0]
      rw [if_pos (by simp; omega), if_pos (by omega)]
      simp only [Option.bind_some, Int.toNat_natCast]
      rw [w1 (k := K) (by omega) (by omega), w1 (k := K + 1) (by omega) (by omega), w1 (k := K + 1 + 1) (by omega) (by omega), w1 (k := K + 1 + 1 + 1) (by omega) (by omega), w1 (k := K + 1 + 1 + 1 + 1) (by omega) (by omega), w1 (k := K + 1 + 1 + 1 + 1 + 1) (by omega) (by omega)]
      simp only [rd_set hp, List.set_set]
      congr 1
      · rw [List.set_append_right _ _ (Nat.le_refl _), Nat.sub_self, List.set_cons_zero, List.append_assoc]
        rfl
      · omega
      · rw [w64 (n := 100000000) (by omega) (by omega)]
        simp
    · simp only [List.length_cons, markL, List.append_assoc, List.cons_append, List.nil_append, Prod.mk.injEq]
      exact ⟨by omega, trivial⟩
theorem mark_boxes (l : List S95) (hl : l.length ≤ 10000000) {K : Int} (h0 : 0 ≤ K) (h1 : K + 6 * l.length ≤ 100000000000000) : Ev (fun k => laws_markProbeBoxS.f k l K) (K + 6 * l.length, markL l K) := by
  unfold laws_markProbeBoxS.f
  exact mark_l l [] K h0 h1 (by simp; omega)
theorem held_l : ∀ (r : List S95) (pre : List S95) (K : Int), 0 ≤ K → K + 6 * r.length ≤ 100000000000000 → pre.length + r.length ≤ 100000000 →
    Ev (fun k => laws_heldProbeBoxS.l0 k (pre ++ markL r K) K (pre.length : Int)) (K + 6 * r.length)
  | [], pre, K, _, _, _ => by
    refine Ev.step (f := fun _ => some K) (fun k => ?_) (Ev.is (by simp))
    simp only [laws_heldProbeBoxS.l0, markL, List.append_nil]
    rw [if_neg (by omega)]
  | x :: r, pre, K, h0, h1, h2 => by
    simp only [List.length_cons] at h1 h2
    have ih := held_l r (pre ++ [⟨K, K + 1, K + 1 + 1, K + 1 + 1 + 1, K + 1 + 1 + 1 + 1, K + 1 + 1 + 1 + 1 + 1⟩]) (K + 6) (by omega) (by omega) (by simp; omega)
    refine Ev.step (f := fun k => laws_heldProbeBoxS.l0 k ((pre ++ [⟨K, K + 1, K + 1 + 1, K + 1 + 1 + 1, K + 1 + 1 + 1 + 1, K + 1 + 1 + 1 + 1 + 1⟩]) ++ markL r (K + 6)) (K + 6) (((pre ++ [(⟨K, K + 1, K + 1 + 1, K + 1 + 1 + 1, K + 1 + 1 + 1 + 1, K + 1 + 1 + 1 + 1 + 1⟩ : S95)]).length : Nat) : Int)) (fun k => ?_) (Ev.eq ih (by simp; omega))
    have hr : rd_T95 (pre ++ markL (x :: r) K) (pre.length : Int) = ⟨K, K + 1, K + 1 + 1, K + 1 + 1 + 1, K + 1 + 1 + 1 + 1, K + 1 + 1 + 1 + 1 + 1⟩ := by
      unfold rd_T95
      simp [markL]
    simp only [laws_heldProbeBoxS.l0]
    rw [if_pos (by simp [markL]; omega), if_pos (by omega), hr]
    simp only
    rw [w1 (k := K) (by omega) (by omega), w1 (k := K + 1) (by omega) (by omega), w1 (k := K + 1 + 1) (by omega) (by omega), w1 (k := K + 1 + 1 + 1) (by omega) (by omega), w1 (k := K + 1 + 1 + 1 + 1) (by omega) (by omega), w1 (k := K + 1 + 1 + 1 + 1 + 1) (by omega) (by omega)]
    simp only [if_true]
    congr 1
    · simp [markL]
    · omega
    · rw [w64 (n := 100000000) (by omega) (by omega)]
      simp
theorem held_boxes (l : List S95) (hl : l.length ≤ 10000000) {K : Int} (h0 : 0 ≤ K) (h1 : K + 6 * l.length ≤ 100000000000000) : Ev (fun k => laws_heldProbeBoxS.f k (markL l K) K) (K + 6 * l.length) := by
  unfold laws_heldProbeBoxS.f
  exact held_l l [] K h0 h1 (by simp; omega)
theorem mark_tube (s : ByteArray) (l : List S95) (hl : l.length ≤ 10000000) {K : Int} (h0 : 0 ≤ K) (h1 : K + 6 * l.length ≤ 100000000000000) : Ev (fun k => laws_markProbeTube.f k s l K) (K + 6 * l.length, markL l K) := by
  unfold laws_markProbeTube.f
  exact Ev.bind (mark_boxes l hl h0 h1) (Ev.now _)
/-! ### With, free -/
def mkC (c : Cl) : S49 := ⟨c.1, c.2.1, c.2.2.1, c.2.2.2.1, c.2.2.2.2.1⟩
def withL (s : ByteArray) (l : List S95) : List S40 → List S49
  | [] => []
  | t :: r => if (meetSt l t.f1).isSome = true ∧ t.f0.toList ≠ s.toList then mkC (enc s t.f0 (meetSt l t.f1)) :: withL s l r else withL s l r
theorem withL_len (s : ByteArray) (l : List S95) : ∀ r : List S40, (withL s l r).length ≤ r.length
  | [] => Nat.le_refl _
  | t :: r => by
    have := withL_len s l r
    unfold withL
    split
    · simp only [List.length_cons]; omega
    · simp only [List.length_cons]; omega
theorem sky_mem : ∀ {l : List S40} {p : Option ByteArray}, skyFrom p l = true → ∀ t ∈ l, tubeOk t.f0 t.f1 = true
  | [], _, _, t, h => by simp at h
  | x :: r, p, h, t, ht => by
    simp only [skyFrom, Bool.and_eq_true] at h
    rcases List.mem_cons.1 ht with rfl | ht
    · exact h.1.1
    · exact sky_mem h.2 t ht
theorem sky_len {l : List S40} (h : skyOk l = true) : l.length ≤ 24 ∧ ∀ t ∈ l, tubeOk t.f0 t.f1 = true := by
  simp only [skyOk, Bool.and_eq_true, decide_eq_true_eq] at h
  exact ⟨h.1, sky_mem h.2⟩
theorem spec_with_l {s : ByteArray} {l : List S95} (ht : tubeOk s l = true) {L : List S40} (hL : skyOk L = true) : ∀ i : Nat, i ≤ L.length → ∀ acc : List S49, acc.length ≤ i → Ev (fun k => spec_l4With.l0 k L acc (i : Int) s l) (acc ++ withL s l (L.drop i)) :=
  drop_ind L (P := fun i r => ∀ acc : List S49, acc.length ≤ i → Ev (fun k => spec_l4With.l0 k L acc (i : Int) s l) (acc ++ withL s l r))
    (fun acc _ => Ev.step (f := fun _ => some acc) (fun k => by simp only [spec_l4With.l0]; rw [if_neg (by omega)]) (Ev.is (by simp [withL])))
    (fun i hi ih acc ha => by
      have hk := sky_len hL
      have hx := hk.2 _ (List.getElem_mem hi)
      refine Ev.step (f := fun k => (spec_l3Meet.f k s l L[i].f0 L[i].f1).bind fun c => if c.2.2.2.2.2 = true then (if L[i].f0.toList = s.toList then spec_l4With.l0 k L acc ((i + 1 : Nat) : Int) s l else spec_l4With.l0 k L (acc ++ [mkC c]) ((i + 1 : Nat) : Int) s l) else spec_l4With.l0 k L acc ((i + 1 : Nat) : Int) s l) (fun k => ?_) ?_
      · simp only [spec_l4With.l0]
        rw [if_pos (by omega), if_pos (by omega), rd39 hi, w64 hi (by omega)]
        congr 1
        funext c
        rw [if_pos (show acc.length < 2513169434916 by omega)]
        rfl
      · refine Ev.bind (spec_l3meet s L[i].f0 (len_of_tube ht).1 (len_of_tube hx).1 (len_of_tube ht).2 (len_of_tube hx).2) ?_
        by_cases hm : (meetSt l L[i].f1).isSome = true
        · refine Ev.pos hm ?_
          by_cases hn : L[i].f0.toList = s.toList
          · exact Ev.pos hn (Ev.eq (ih acc (by omega)) (by rw [withL, if_neg (fun x => x.2 hn)]))
          · exact Ev.neg hn (Ev.eq (ih (acc ++ [mkC (enc s L[i].f0 (meetSt l L[i].f1))]) (by simp; omega)) (by rw [withL, if_pos ⟨hm, hn⟩, List.append_assoc]; rfl))
        · exact Ev.neg hm (Ev.eq (ih acc (by omega)) (by rw [withL, if_neg (fun x => hm x.1)])))
theorem spec_l4with {s : ByteArray} {l : List S95} (ht : tubeOk s l = true) {L : List S40} (hL : skyOk L = true) : Ev (fun k => spec_l4With.f k L s l) (withL s l L) := by
  unfold spec_l4With.f
  exact spec_with_l ht hL 0 (by omega) [] (by simp)
theorem impl_with_l {s : ByteArray} {l : List S95} (ht : tubeOk s l = true) {L : List S40} (hL : skyOk L = true) : ∀ i : Nat, i ≤ L.length → ∀ acc : List S49, acc.length ≤ i → Ev (fun k => impl_ProbeWith.l0 k acc L (L.length : Int) (i : Int) s l) (acc ++ withL s l (L.drop i)) :=
  drop_ind L (P := fun i r => ∀ acc : List S49, acc.length ≤ i → Ev (fun k => impl_ProbeWith.l0 k acc L (L.length : Int) (i : Int) s l) (acc ++ withL s l r))
    (fun acc _ => Ev.step (f := fun _ => some acc) (fun k => by simp only [impl_ProbeWith.l0]; rw [if_neg (by omega)]) (Ev.is (by simp [withL])))
    (fun i hi ih acc ha => by
      have hk := sky_len hL
      have hx := hk.2 _ (List.getElem_mem hi)
      refine Ev.step (f := fun k => (impl_ProbeMeet.f k s l L[i].f0 L[i].f1).bind fun c => if c.2.2.2.2.2 = true then (if L[i].f0.toList = s.toList then impl_ProbeWith.l0 k acc L (L.length : Int) ((i + 1 : Nat) : Int) s l else impl_ProbeWith.l0 k (acc ++ [mkC c]) L (L.length : Int) ((i + 1 : Nat) : Int) s l) else impl_ProbeWith.l0 k acc L (L.length : Int) ((i + 1 : Nat) : Int) s l) (fun k => ?_) ?_
      · simp only [impl_ProbeWith.l0]
        rw [if_pos (by omega), if_pos (by omega), if_pos (by omega), rd39 hi, w64 hi (by omega)]
        congr 1
        funext c
        rw [if_pos (show acc.length < 2513169434916 by omega)]
        rfl
      · refine Ev.bind (Ev.eq (impl_meet s l L[i].f0 L[i].f1) (by rw [meet, if_pos ⟨ht, hx⟩])) ?_
        by_cases hm : (meetSt l L[i].f1).isSome = true
        · refine Ev.pos hm ?_
          by_cases hn : L[i].f0.toList = s.toList
          · exact Ev.pos hn (Ev.eq (ih acc (by omega)) (by rw [withL, if_neg (fun x => x.2 hn)]))
          · exact Ev.neg hn (Ev.eq (ih (acc ++ [mkC (enc s L[i].f0 (meetSt l L[i].f1))]) (by simp; omega)) (by rw [withL, if_pos ⟨hm, hn⟩, List.append_assoc]; rfl))
        · exact Ev.neg hm (Ev.eq (ih acc (by omega)) (by rw [withL, if_neg (fun x => hm x.1)])))
/-- What ProbeWith answers. -/
def withA (L : List S40) (s : ByteArray) (l : List S95) : List S49 := if skyOk L = true ∧ tubeOk s l = true then withL s l L else []
theorem impl_with (L : List S40) (s : ByteArray) (l : List S95) : Ev (fun k => impl_ProbeWith.f k L s l) (withA L s l) := by
  unfold impl_ProbeWith.f
  refine Ev.bind (impl_sky L) ?_
  by_cases hL : skyOk L = true
  · refine Ev.pos hL (Ev.bind (impl_tube s l) ?_)
    by_cases ht : tubeOk s l = true
    · refine Ev.step (f := fun k => impl_ProbeWith.l0 k [] L (L.length : Int) ((0 : Nat) : Int) s l) (fun k => ?_) (Ev.eq (impl_with_l ht hL 0 (by omega) [] (by simp)) (by rw [withA, if_pos ⟨hL, ht⟩]; rfl))
      simp only [impl_ProbeWith.j0]
      rw [if_neg (by simp [ht])]
      rfl
    · refine Ev.step (f := fun _ => some []) (fun k => ?_) (Ev.is (by rw [withA, if_neg (fun x => ht x.2)]))
      simp only [impl_ProbeWith.j0]
      rw [if_pos (by simpa using ht)]
  · refine Ev.neg hL (Ev.step (f := fun _ => some []) (fun k => ?_) (Ev.is (by rw [withA, if_neg (fun x => hL x.1)])))
    simp only [impl_ProbeWith.j0]
    rfl
def freeA (L : List S40) (s : ByteArray) (l : List S95) : Bool := skyOk L && tubeOk s l && ((withL s l L).length == 0)
theorem impl_free (L : List S40) (s : ByteArray) (l : List S95) : Ev (fun k => impl_ProbeFree.f k L s l) (freeA L s l) := by
  unfold impl_ProbeFree.f
  refine Ev.bind (impl_sky L) ?_
  by_cases hL : skyOk L = true
  · refine Ev.pos hL (Ev.bind (impl_tube s l) ?_)
    by_cases ht : tubeOk s l = true
    · refine Ev.pos ht (Ev.bind (Ev.eq (impl_with L s l) (by rw [withA, if_pos ⟨hL, ht⟩])) (Ev.is ?_))
      simp only [freeA, hL, ht, Bool.true_and, Option.some.injEq]
      rw [Bool.eq_iff_iff]
      simp
    · exact Ev.neg ht (Ev.is (by simp [freeA, ht]))
  · exact Ev.neg hL (Ev.is (by simp [freeA, hL]))
end Go.Proofs.Ytdbomnhdpniigaa.Q
