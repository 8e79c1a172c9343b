/- Clashes of tubes two by two; the marks of tubes and of clashes. No condition beside the sizes that are typed. -/
import Derived.Test.YtdbomnhdpniigaaQ4
namespace Go.Proofs.Ytdbomnhdpniigaa.Q
open Go.RowKit Go.Proofs.Ytdbomnhdpniigaa.PA Go.Proofs.YtdbomnhdpniigaaW.PrintWords Go.Proofs.YtdbomnhdpniigaaW.PrintLast Go.Proofs.YtdbomnhdpniigaaW.PrintMore

theorem rd52 {l : List S49} {i : Nat} (h : i < l.length) : rd_T49 l (i : Int) = l[i] := by
  unfold rd_T49
  simp [h]

/-! ### A mark's text -/
theorem size_one (c : Int) : (strOfNums [c]).size = 1 := rfl
theorem mark_text_l : ∀ (n x : Nat) (s : ByteArray), x ≤ n → n ≤ 1000000000000000 → s.size + n ≤ 1000000000000000000 → ∃ r, Ev (fun k => laws_markText.l0 k (x : Int) s) r := by
  intro n
  induction n with
  | zero =>
    intro x s hx _ hs
    refine ⟨_, Ev.step (f := fun _ => some ((⟨#[109]⟩ : ByteArray) ++ s)) (fun k => ?_) (Ev.is rfl)⟩
    simp only [laws_markText.l0]
    rw [if_neg (by omega), if_pos (by omega)]
  | succ n ih =>
    intro x s hx hn hs
    by_cases h : x = 0
    · subst h
      refine ⟨_, Ev.step (f := fun _ => some ((⟨#[109]⟩ : ByteArray) ++ s)) (fun k => ?_) (Ev.is rfl)⟩
      simp only [laws_markText.l0]
      rw [if_neg (by omega), if_pos (by omega)]
    · have hz : (strOfNums [(wrap64 (48 + (Int.tmod (x : Int) 10))) % 256]).size = 1 := size_one _
      obtain ⟨r, hr⟩ := ih (x / 10) (strOfNums [(wrap64 (48 + (Int.tmod (x : Int) 10))) % 256] ++ s) (by omega) (by omega) (by rw [ByteArray.size_append, hz]; omega)
      refine ⟨r, Ev.step (f := fun k => laws_markText.l0 k ((x / 10 : Nat) : Int) (strOfNums [(wrap64 (48 + (Int.tmod (x : Int) 10))) % 256] ++ s)) (fun k => ?_) hr⟩
      simp only [laws_markText.l0]
      rw [if_pos (by omega)]
      simp only [Option.bind_some]
      rw [if_pos (by rw [hz]; omega)]
      have hd : wrap64 (Int.tdiv (x : Int) 10) = ((x / 10 : Nat) : Int) := by
        rw [Int.tdiv_eq_ediv_of_nonneg (by omega)]
        unfold wrap64
        omega
      rw [hd]
theorem mark_text (K : Int) (h : K ≤ 1000000000000000) : ∃ r, Ev (fun k => laws_markText.f k K) r := by
  unfold laws_markText.f
  by_cases h0 : K ≤ 0
  · exact ⟨_, Ev.pos h0 (Ev.is rfl)⟩
  · obtain ⟨r, hr⟩ := mark_text_l K.toNat K.toNat ⟨#[]⟩ (Nat.le_refl _) (by omega) (by show 0 + K.toNat ≤ _; omega)
    rw [Int.toNat_of_nonneg (by omega)] at hr
    exact ⟨r, Ev.neg h0 hr⟩
noncomputable def mt (K : Int) : ByteArray := if h : K ≤ 1000000000000000 then Classical.choose (mark_text K h) else ⟨#[]⟩
theorem mt_ev {K : Int} (h : K ≤ 1000000000000000) : Ev (fun k => laws_markText.f k K) (mt K) := by
  unfold mt
  rw [dif_pos h]
  exact Classical.choose_spec (mark_text K h)

/-! ### Marks of tubes -/
noncomputable def markT : List S40 → Int → List S40
  | [], _ => []
  | t :: r, K => ⟨mt K, markL t.f1 (K + 1)⟩ :: markT r (K + 1 + 6 * t.f1.length)
def cntT : List S40 → Int
  | [] => 0
  | t :: r => 1 + 6 * t.f1.length + cntT r
theorem cnt_le : ∀ {l : List S40}, (∀ x ∈ l, x.f1.length ≤ 1048576) → 0 ≤ cntT l ∧ cntT l ≤ 6291457 * (l.length : Int)
  | [], _ => by simp [cntT]
  | t :: r, h => by
    have h1 := h t (by simp)
    have h2 := cnt_le (l := r) (fun x hx => h x (by simp [hx]))
    simp only [cntT, List.length_cons]
    omega
theorem rd_set39 {l : List S40} {i : Nat} (h : i < l.length) (v : S40) : rd_T40 (l.set i v) (i : Int) = v := by
  unfold rd_T40
  simp [h]
theorem marks_l : ∀ (r : List S40) (pre : List S40) (K : Int), 0 ≤ K → K + cntT r ≤ 100000000000000 → pre.length + r.length ≤ 100000000 → (∀ x ∈ r, x.f1.length ≤ 1048576) →
    Ev (fun k => laws_markProbeTubeS.l0 k (pre ++ r) K (pre.length : Int)) (K + cntT r, pre ++ markT r K)
  | [], pre, K, _, _, _, _ => by
    refine Ev.step (f := fun _ => some (K, pre ++ [])) (fun k => ?_) (Ev.is (by simp [markT, cntT]))
    simp only [laws_markProbeTubeS.l0]
    rw [if_neg (by simp)]
  | x :: r, pre, K, h0, h1, h2, h3 => by
    have hx := h3 x (by simp)
    have hc := cnt_le (l := r) (fun x hx => h3 x (by simp [hx]))
    simp only [List.length_cons, cntT] at h1 h2
    have ih := marks_l r (pre ++ [⟨mt K, markL x.f1 (K + 1)⟩]) (K + 1 + 6 * x.f1.length) (by omega) (by omega) (by simp; omega) (fun y hy => h3 y (by simp [hy]))
    have hp : pre.length < (pre ++ x :: r).length := by simp
    have hrd : rd_T40 (pre ++ x :: r) (pre.length : Int) = x := by unfold rd_T40; simp
    refine Ev.step (f := fun k => (laws_markText.f k K).bind fun t => (laws_markProbeBoxS.f k x.f1 (K + 1)).bind fun b => laws_markProbeTubeS.l0 k (pre ++ ⟨t, b.2⟩ :: r) b.1 ((pre.length + 1 : Nat) : Int)) (fun k => ?_) (Ev.bind (mt_ev (by omega)) (Ev.bind (mark_boxes x.f1 (by omega) (K := K + 1) (by omega) (by omega)) (Ev.eq (Ev.congr (fun k => ?_) ih) ?_)))
    · simp only [laws_markProbeTubeS.l0]
      rw [if_pos (by simp; omega)]
      congr 1
      funext t
      rw [if_pos (by omega)]
      simp only [Option.bind_some, Int.toNat_natCast, hrd, rd_set39 hp, List.set_set]
      rw [w1 h0 (by omega), w64 (n := 100000000) (by omega) (by omega)]
      congr 1
      funext b
      rw [List.set_append_right _ _ (Nat.le_refl _), Nat.sub_self, List.set_cons_zero]
    · simp
    · simp only [cntT, markT, List.append_assoc, List.cons_append, List.nil_append, Prod.mk.injEq, and_true]
      omega
theorem mark_tubes (l : List S40) (hl : l.length ≤ 1048576) (hb : ∀ x ∈ l, x.f1.length ≤ 1048576) : Ev (fun k => laws_markProbeTubeS.f k l 1) (1 + cntT l, markT l 1) := by
  unfold laws_markProbeTubeS.f
  have := cnt_le hb
  exact marks_l l [] 1 (by omega) (by omega) (by simp; omega) hb

/-! ### Marks of clashes -/
noncomputable def markC : List S49 → Int → List S49
  | [], _ => []
  | _ :: r, K => ⟨mt K, mt (K + 1), K + 1 + 1, K + 1 + 1 + 1, K + 1 + 1 + 1 + 1⟩ :: markC r (K + 5)
theorem rd_set52 {l : List S49} {i : Nat} (h : i < l.length) (v : S49) : rd_T49 (l.set i v) (i : Int) = v := by
  unfold rd_T49
  simp [h]
theorem markc_l : ∀ (r : List S49) (pre : List S49) (K : Int), 0 ≤ K → K + 5 * r.length ≤ 100000000 → pre.length + r.length ≤ 100000000 →
    Ev (fun k => laws_markProbeClashS.l0 k (pre ++ r) K (pre.length : Int)) (K + 5 * r.length, pre ++ markC r K)
  | [], pre, K, _, _, _ => by
    refine Ev.step (f := fun _ => some (K, pre ++ [])) (fun k => ?_) (Ev.is (by simp [markC]))
    simp only [laws_markProbeClashS.l0]
    rw [if_neg (by simp)]
  | x :: r, pre, K, h0, h1, h2 => by
    simp only [List.length_cons] at h1 h2
    have ih := markc_l r (pre ++ [⟨mt K, mt (K + 1), K + 1 + 1, K + 1 + 1 + 1, K + 1 + 1 + 1 + 1⟩]) (K + 5) (by omega) (by omega) (by simp; omega)
    have hp : pre.length < (pre ++ x :: r).length := by simp
    refine Ev.step (f := fun k => (laws_markText.f k K).bind fun t => (laws_markText.f k (K + 1)).bind fun u => laws_markProbeClashS.l0 k (pre ++ ⟨t, u, K + 1 + 1, K + 1 + 1 + 1, K + 1 + 1 + 1 + 1⟩ :: r) (K + 5) ((pre.length + 1 : Nat) : Int)) (fun k => ?_) (Ev.bind (mt_ev (by omega)) (Ev.bind (mt_ev (by omega)) (Ev.eq (Ev.congr (fun k => ?_) ih) ?_)))
    · simp only [laws_markProbeClashS.l0]
      rw [if_pos (by simp; omega)]
      congr 1
      funext t
      rw [if_pos (by omega)]
      simp only [Option.bind_some, Int.toNat_natCast]
      rw [w1 (k := K) (by omega) (by omega)]
      congr 1
      funext u
      rw [w1 (k := K + 1) (by omega) (by omega), w1 (k := K + 1 + 1) (by omega) (by omega), w1 (k := K + 1 + 1 + 1) (by omega) (by omega), w1 (k := K + 1 + 1 + 1 + 1) (by omega) (by omega)]
      simp only [rd_set52 hp, List.set_set]
      rw [List.set_append_right _ _ (Nat.le_refl _), Nat.sub_self, List.set_cons_zero, w64 (n := 100000000) (by omega) (by omega)]
      congr 1
      omega
    · simp
    · simp only [List.length_cons, markC, List.append_assoc, List.cons_append, List.nil_append, Prod.mk.injEq, and_true]
      omega
theorem mark_clashes (l : List S49) (hl : l.length ≤ 1000000) : Ev (fun k => laws_markProbeClashS.f k l 1) (1 + 5 * (l.length : Int), markC l 1) := by
  unfold laws_markProbeClashS.f
  exact markc_l l [] 1 (by omega) (by omega) (by simp; omega)
theorem heldc_l : ∀ (r : List S49) (pre : List S49) (K : Int), 0 ≤ K → K + 5 * r.length ≤ 100000000 → pre.length + r.length ≤ 100000000 →
    Ev (fun k => laws_heldProbeClashS.l0 k (pre ++ markC r K) K (pre.length : Int)) (K + 5 * r.length)
  | [], pre, K, _, _, _ => by
    refine Ev.step (f := fun _ => some K) (fun k => ?_) (Ev.is (by simp))
    simp only [laws_heldProbeClashS.l0, markC, List.append_nil]
    rw [if_neg (by omega)]
  | x :: r, pre, K, h0, h1, h2 => by
    simp only [List.length_cons] at h1 h2
    have ih := heldc_l r (pre ++ [⟨mt K, mt (K + 1), K + 1 + 1, K + 1 + 1 + 1, K + 1 + 1 + 1 + 1⟩]) (K + 5) (by omega) (by omega) (by simp; omega)
    have hr : rd_T49 (pre ++ markC (x :: r) K) (pre.length : Int) = ⟨mt K, mt (K + 1), K + 1 + 1, K + 1 + 1 + 1, K + 1 + 1 + 1 + 1⟩ := by
      unfold rd_T49
      simp [markC]
    refine Ev.step (f := fun k => (laws_markText.f k K).bind fun t => if (mt K).toList = t.toList then (laws_markText.f k (K + 1)).bind fun u => if (mt (K + 1)).toList = u.toList then laws_heldProbeClashS.l0 k (pre ++ markC (x :: r) K) (K + 5) ((pre.length + 1 : Nat) : Int) else some (-1) else some (-1)) (fun k => ?_) (Ev.bind (mt_ev (by omega)) (Ev.pos rfl (Ev.bind (mt_ev (by omega)) (Ev.pos rfl (Ev.eq (Ev.congr (fun k => ?_) ih) ?_)))))
    · simp only [laws_heldProbeClashS.l0]
      rw [if_pos (by simp [markC]; omega), if_pos (by omega), hr]
      congr 1
      funext t
      simp only
      rw [w1 (k := K) (by omega) (by omega), w1 (k := K + 1) (by omega) (by omega), w1 (k := K + 1 + 1) (by omega) (by omega), w1 (k := K + 1 + 1 + 1) (by omega) (by omega), w1 (k := K + 1 + 1 + 1 + 1) (by omega) (by omega)]
      simp only [if_true]
      rw [w64 (n := 100000000) (by omega) (by omega)]
      rw [show K + 1 + 1 + 1 + 1 + 1 = K + 5 by omega]
    · simp [markC]
    · simp only [List.length_cons]
      omega
theorem held_clashes (l : List S49) (hl : l.length ≤ 1000000) : Ev (fun k => laws_heldProbeClashS.f k (markC l 1) 1) (1 + 5 * (l.length : Int)) := by
  unfold laws_heldProbeClashS.f
  exact heldc_l l [] 1 (by omega) (by omega) (by simp; omega)
theorem eq_clash (x : S49) : laws_eqProbeClash.f x.f0 x.f1 x.f2 x.f3 x.f4 x.f0 x.f1 x.f2 x.f3 x.f4 = some true := by simp [laws_eqProbeClash.f]
theorem eq_clashes_l (l : List S49) (hl : l.length ≤ 9223372036854775807) : ∀ i : Nat, i ≤ l.length → Ev (fun k => laws_eqProbeClashS.l0 k l l (i : Int)) true :=
  drop_ind l (P := fun i _ => Ev (fun k => laws_eqProbeClashS.l0 k l l (i : Int)) true)
    (Ev.step (f := fun _ => some true) (fun k => by simp only [laws_eqProbeClashS.l0]; rw [if_neg (by omega)]) (Ev.is rfl))
    (fun i hi ih => by
      refine Ev.step (f := fun k => laws_eqProbeClashS.l0 k l l ((i + 1 : Nat) : Int)) (fun k => ?_) ih
      simp only [laws_eqProbeClashS.l0]
      rw [if_pos (by omega), if_pos (by omega), if_pos (by omega), rd52 hi, eq_clash, w64 hi hl]
      simp)
theorem eq_clashes (l : List S49) (hl : l.length ≤ 9223372036854775807) : Ev (fun k => laws_eqProbeClashS.f k l l) true := by
  unfold laws_eqProbeClashS.f
  exact Ev.pos rfl (eq_clashes_l l hl 0 (by omega))

/-! ### Two by two -/
def rowL (t : S40) : List S40 → List S49
  | [] => []
  | u :: r => if (meetSt t.f1 u.f1).isSome = true then mkC (enc t.f0 u.f0 (meetSt t.f1 u.f1)) :: rowL t r else rowL t r
def allL : List S40 → List S49
  | [] => []
  | t :: r => rowL t r ++ allL r
theorem rowL_len (t : S40) : ∀ r : List S40, (rowL t r).length ≤ r.length
  | [] => Nat.le_refl _
  | u :: r => by
    have := rowL_len t r
    unfold rowL
    split
    · simp only [List.length_cons]; omega
    · simp only [List.length_cons]; omega
theorem allL_len : ∀ {l : List S40}, l.length ≤ 24 → (allL l).length ≤ 24 * l.length
  | [], _ => Nat.le_refl _
  | t :: r, h => by
    simp only [List.length_cons] at h
    have h1 := rowL_len t r
    have h2 := allL_len (l := r) (by omega)
    simp only [allL, List.length_append, List.length_cons]
    omega
theorem spec_all_row {L : List S40} (hL : skyOk L = true) {i : Nat} (hi : i < L.length) {R : List S49 → List S49}
    (hy : ∀ acc : List S49, acc.length ≤ 1000 * (i + 1) → Ev (fun k => spec_ProbeAll.l0 k L acc ((i + 1 : Nat) : Int)) (R acc)) :
    ∀ j : Nat, j ≤ L.length → ∀ acc : List S49, acc.length ≤ 1000 * i + j → Ev (fun k => spec_ProbeAll.l1 k L acc (i : Int) (j : Int)) (R (acc ++ rowL L[i] (L.drop j))) :=
  drop_ind L (P := fun j r => ∀ acc : List S49, acc.length ≤ 1000 * i + j → Ev (fun k => spec_ProbeAll.l1 k L acc (i : Int) (j : Int)) (R (acc ++ rowL L[i] r)))
    (fun acc ha => by
      have hk := (sky_len hL).1
      refine Ev.step (f := fun k => spec_ProbeAll.l0 k L acc ((i + 1 : Nat) : Int)) (fun k => ?_) (Ev.eq (hy acc (by omega)) (by rw [rowL, List.append_nil]))
      simp only [spec_ProbeAll.l1]
      rw [if_neg (by omega), w64 hi (by omega)])
    (fun j hj ih acc ha => by
      have hk := sky_len hL
      have hx := hk.2 _ (List.getElem_mem hi)
      have hz := hk.2 _ (List.getElem_mem hj)
      refine Ev.step (f := fun k => (spec_l3Meet.f k L[i].f0 L[i].f1 L[j].f0 L[j].f1).bind fun c => if c.2.2.2.2.2 = true then spec_ProbeAll.l1 k L (acc ++ [mkC c]) (i : Int) ((j + 1 : Nat) : Int) else spec_ProbeAll.l1 k L acc (i : Int) ((j + 1 : Nat) : Int)) (fun k => ?_) ?_
      · simp only [spec_ProbeAll.l1]
        rw [if_pos (by omega), if_pos (by omega), if_pos (by omega), if_pos (by omega), rd39 hi, rd39 hj, w64 hj (by omega)]
        congr 1
        funext c
        rw [if_pos (show acc.length < 2513169434916 by omega)]
        rfl
      · refine Ev.bind (spec_l3meet L[i].f0 L[j].f0 (len_of_tube hx).1 (len_of_tube hz).1 (len_of_tube hx).2 (len_of_tube hz).2) ?_
        by_cases hm : (meetSt L[i].f1 L[j].f1).isSome = true
        · exact Ev.pos hm (Ev.eq (ih (acc ++ [mkC (enc L[i].f0 L[j].f0 (meetSt L[i].f1 L[j].f1))]) (by simp; omega)) (by rw [rowL, if_pos hm, List.append_assoc]; rfl))
        · exact Ev.neg hm (Ev.eq (ih acc (by omega)) (by rw [rowL, if_neg hm])))
theorem spec_all_l {L : List S40} (hL : skyOk L = true) : ∀ i : Nat, i ≤ L.length → ∀ acc : List S49, acc.length ≤ 1000 * i → Ev (fun k => spec_ProbeAll.l0 k L acc (i : Int)) (acc ++ allL (L.drop i)) :=
  drop_ind L (P := fun i r => ∀ acc : List S49, acc.length ≤ 1000 * i → Ev (fun k => spec_ProbeAll.l0 k L acc (i : Int)) (acc ++ allL r))
    (fun acc _ => Ev.step (f := fun _ => some acc) (fun k => by simp only [spec_ProbeAll.l0]; rw [if_neg (by omega)]) (Ev.is (by simp [allL])))
    (fun i hi ih acc ha => by
      have hk := (sky_len hL).1
      refine Ev.step (f := fun k => spec_ProbeAll.l1 k L acc (i : Int) ((i + 1 : Nat) : Int)) (fun k => ?_) (Ev.eq (spec_all_row hL hi (R := fun a => a ++ allL (L.drop (i + 1))) ih (i + 1) (by omega) acc (by omega)) (by rw [allL, List.append_assoc]))
      simp only [spec_ProbeAll.l0]
      rw [if_pos (by omega), w64 hi (by omega)])
/-- What ProbeAll answers. -/
def allA (L : List S40) : List S49 := if skyOk L = true then allL L else []
theorem allA_len (L : List S40) : (allA L).length ≤ 1000 := by
  unfold allA
  split
  · rename_i h
    have h1 := (sky_len h).1
    have := allL_len h1
    omega
  · simp
theorem spec_all (L : List S40) : Ev (fun k => spec_ProbeAll.f k L) (allA L) := by
  unfold spec_ProbeAll.f
  simp only [Option.bind_some]
  refine Ev.bind (spec_sky L) ?_
  by_cases hL : skyOk L = true
  · exact Ev.pos hL (Ev.eq (spec_all_l hL 0 (by omega) [] (by simp)) (by rw [allA, if_pos hL]; rfl))
  · exact Ev.neg hL (Ev.is (by rw [allA, if_neg hL]))
theorem impl_all_row {L : List S40} (hL : skyOk L = true) {i : Nat} (hi : i < L.length) {D : List S40} (hD : D = L.drop (i + 1)) {R : List S49 → List S49}
    (hy : ∀ acc : List S49, acc.length ≤ 1000 * (i + 1) → Ev (fun k => impl_ProbeAll.l0 k L acc L (L.length : Int) ((i + 1 : Nat) : Int)) (R acc)) :
    ∀ j : Nat, j ≤ D.length → ∀ acc : List S49, acc.length ≤ 1000 * i + j → Ev (fun k => impl_ProbeAll.l1 k L acc L (L.length : Int) (i : Int) D (D.length : Int) (j : Int) L[i].f0 L[i].f1) (R (acc ++ rowL L[i] (D.drop j))) :=
  drop_ind D (P := fun j r => ∀ acc : List S49, acc.length ≤ 1000 * i + j → Ev (fun k => impl_ProbeAll.l1 k L acc L (L.length : Int) (i : Int) D (D.length : Int) (j : Int) L[i].f0 L[i].f1) (R (acc ++ rowL L[i] r)))
    (fun acc ha => by
      have hk := (sky_len hL).1
      have hd : D.length ≤ L.length := by rw [hD, List.length_drop]; omega
      refine Ev.step (f := fun k => impl_ProbeAll.l0 k L acc L (L.length : Int) ((i + 1 : Nat) : Int)) (fun k => ?_) (Ev.eq (hy acc (by omega)) (by rw [rowL, List.append_nil]))
      simp only [impl_ProbeAll.l1]
      rw [if_neg (by omega), w64 hi (by omega)])
    (fun j hj ih acc ha => by
      have hk := sky_len hL
      have hd : D.length ≤ L.length := by rw [hD, List.length_drop]; omega
      have hx := hk.2 _ (List.getElem_mem hi)
      have hz : tubeOk D[j].f0 D[j].f1 = true := hk.2 _ (List.mem_of_mem_drop (i := i + 1) (by rw [← hD]; exact List.getElem_mem hj))
      refine Ev.step (f := fun k => (impl_ProbeMeet.f k L[i].f0 L[i].f1 D[j].f0 D[j].f1).bind fun c => if c.2.2.2.2.2 = true then impl_ProbeAll.l1 k L (acc ++ [mkC c]) L (L.length : Int) (i : Int) D (D.length : Int) ((j + 1 : Nat) : Int) L[i].f0 L[i].f1 else impl_ProbeAll.l1 k L acc L (L.length : Int) (i : Int) D (D.length : Int) ((j + 1 : Nat) : Int) L[i].f0 L[i].f1) (fun k => ?_) ?_
      · simp only [impl_ProbeAll.l1]
        rw [if_pos (by omega), if_pos (by omega), if_pos (by omega), rd39 hj, w64 hj (by omega)]
        congr 1
        funext c
        rw [if_pos (show acc.length < 2513169434916 by omega)]
        rfl
      · refine Ev.bind (Ev.eq (impl_meet L[i].f0 L[i].f1 D[j].f0 D[j].f1) (by rw [meet, if_pos ⟨hx, hz⟩])) ?_
        by_cases hm : (meetSt L[i].f1 D[j].f1).isSome = true
        · exact Ev.pos hm (Ev.eq (ih (acc ++ [mkC (enc L[i].f0 D[j].f0 (meetSt L[i].f1 D[j].f1))]) (by simp; omega)) (by rw [rowL, if_pos hm, List.append_assoc]; rfl))
        · exact Ev.neg hm (Ev.eq (ih acc (by omega)) (by rw [rowL, if_neg hm])))
theorem impl_all_l {L : List S40} (hL : skyOk L = true) : ∀ i : Nat, i ≤ L.length → ∀ acc : List S49, acc.length ≤ 1000 * i → Ev (fun k => impl_ProbeAll.l0 k L acc L (L.length : Int) (i : Int)) (acc ++ allL (L.drop i)) :=
  drop_ind L (P := fun i r => ∀ acc : List S49, acc.length ≤ 1000 * i → Ev (fun k => impl_ProbeAll.l0 k L acc L (L.length : Int) (i : Int)) (acc ++ allL r))
    (fun acc _ => Ev.step (f := fun _ => some acc) (fun k => by simp only [impl_ProbeAll.l0]; rw [if_neg (by omega)]) (Ev.is (by simp [allL])))
    (fun i hi ih acc ha => by
      have hk := (sky_len hL).1
      refine Ev.step (f := fun k => impl_ProbeAll.l1 k L acc L (L.length : Int) (i : Int) (L.drop (i + 1)) ((L.drop (i + 1)).length : Int) ((0 : Nat) : Int) L[i].f0 L[i].f1) (fun k => ?_) (Ev.eq (impl_all_row hL hi rfl (R := fun a => a ++ allL (L.drop (i + 1))) ih 0 (by omega) acc (by omega)) (by rw [allL, List.append_assoc]; rfl))
      simp only [impl_ProbeAll.l0]
      rw [if_pos (by omega), if_pos (by omega), if_pos (by omega), w64 hi (by omega), if_pos (by omega), if_pos (by omega), rd39 hi]
      rfl)
theorem impl_all (L : List S40) : Ev (fun k => impl_ProbeAll.f k L) (allA L) := by
  unfold impl_ProbeAll.f
  refine Ev.bind (impl_sky L) ?_
  by_cases hL : skyOk L = true
  · exact Ev.pos hL (Ev.eq (impl_all_l hL 0 (by omega) [] (by simp)) (by rw [allA, if_pos hL]; rfl))
  · exact Ev.neg hL (Ev.is (by rw [allA, if_neg hL]))
theorem spec_with (L : List S40) (s : ByteArray) (l : List S95) : Ev (fun k => spec_ProbeWith.f k L s l) (withA L s l) := by
  unfold spec_ProbeWith.f
  refine Ev.bind (spec_sky L) ?_
  by_cases hL : skyOk L = true
  · refine Ev.pos hL (Ev.bind (spec_tube s l) ?_)
    by_cases ht : tubeOk s l = true
    · exact Ev.pos ht (Ev.bind (spec_l4with ht hL) (Ev.is (by rw [withA, if_pos ⟨hL, ht⟩])))
    · exact Ev.neg ht (Ev.is (by rw [withA, if_neg (fun x => ht x.2)]))
  · exact Ev.neg hL (Ev.is (by rw [withA, if_neg (fun x => hL x.1)]))
theorem withA_len (L : List S40) (s : ByteArray) (l : List S95) : (withA L s l).length ≤ 1000 := by
  unfold withA
  split
  · rename_i h
    have h1 := (sky_len h.1).1
    have := withL_len s l L
    omega
  · simp
end Go.Proofs.Ytdbomnhdpniigaa.Q
