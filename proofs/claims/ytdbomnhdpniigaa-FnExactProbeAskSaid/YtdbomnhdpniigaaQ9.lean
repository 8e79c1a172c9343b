/- Clashes of tubes two by two; the marks of tubes and of clashes. No condition beside the sizes that are typed. -/
import Derived.Test.YtdbomnhdpniigaaQ4
namespace Go.Proofs.Ytdbomnhdpniigaa.Q
open Go.RowKit Go.Proofs.Ytdbomnhdpniigaa.PA Go.Proofs.YtdbomnhdpniigaaW.PrintWords Go.Proofs.YtdbomnhdpniigaaW.PrintLast Go.Proofs.YtdbomnhdpniigaaW.PrintMore

theorem rd52 {l : List S49} {i : Nat} (h : i < l.length) : rd_T49 l (i : Int) = l[i] := by
  unfold rd_T49
  simp [h]

/-! ### A mark's text -/
theorem size_one (c : Int) : (strOfNums [c]).size = 1 := rfl
theorem mark_text_l : ∀ (n x : Nat) (s : ByteArray), x ≤ n → n ≤ 1000000000000000 → s.size + n ≤ 1000000000000000000 → ∃ r, Ev (fun k => laws_markText.l0 k (x : Int) s) r := by
  intro n
  induction n with
  | zero =>
    intro x s hx _ hs
    refine ⟨_, Ev.step (f := fun _ => some ((⟨#[109]⟩ : ByteArray) ++ s)) (fun k => ?_) (Ev.is rfl)⟩
    simp only [laws_markText.l0]
    rw [if_neg (by omega), if_pos (by omega)]
  | succ n ih =>
    intro x s hx hn hs
    by_cases h : x = 0
    · subst h
      refine ⟨_, Ev.step (f := fun _ => some ((⟨#[109]⟩ : ByteArray) ++ s)) (fun k => ?_) (Ev.is rfl)⟩
      simp only [laws_markText.l0]
      rw [if_neg (by omega), if_pos (by omega)]
    · have hz : (strOfNums [(wrap64 (48 + (Int.tmod (x : Int) 10))) % 256]).size = 1 := size_one _
      obtain ⟨r, hr⟩ := ih (x / 10) (strOfNums [(wrap64 (48 + (Int.tmod (x : Int) 10))) % 256] ++ s) (by omega) (by omega) (by rw [ByteArray.size_append, hz]; omega)
      refine ⟨r, Ev.step (f := fun k => laws_markText.l0 k ((x / 10 : Nat) : Int) (strOfNums [(wrap64 (48 + (Int.tmod (x : Int) 10))) % 256] ++ s)) (fun k => ?_) hr⟩
      simp only [laws_markText.l0]
      rw [if_pos (by omega)]
      simp only [Option.bind_some]
      rw [if_pos (by rw [hz]; omega)]
      have hd : wrap64 (Int.tdiv (x : Int) 10) = ((x / 10 : Nat) : Int) := by
        rw [Int.tdiv_eq_ediv_of_nonneg (by omega)]
        unfold wrap64
        omega
      rw [hd]
theorem mark_text (K : Int) (h : K ≤ 1000000000000000) : ∃ r, Ev (fun k => laws_markText.f k K) r := by
  unfold laws_markText.f
  by_cases h0 : K ≤ 0
  · exact ⟨_, Ev.pos h0 (Ev.is rfl)⟩
  · obtain ⟨r, hr⟩ := mark_text_l K.toNat K.toNat ⟨#[]⟩ (Nat.le_refl _) (by omega) (by show 0 + K.toNat ≤ _; omega)
    rw [Int.toNat_of_nonneg (by omega)] at hr
    exact ⟨r, Ev.neg h0 hr⟩
noncomputable def mt (K : Int) : ByteArray := if h : K ≤ 1000000000000000 then Classical.choose (mark_text K h) else ⟨#[]⟩
theorem mt_ev {K : Int} (h : K ≤ 1000000000000000) : Ev (fun k => laws_markText.f k K) (mt K) := by
  unfold mt
  rw [dif_pos h]
  exact Classical.choose_spec (mark_text K h)

/-! ### Marks of tubes -/
/-! ### Marks of clashes -/
noncomputable def markC : List S49 → Int → List S49
  | [], _ => []
  | _ :: r, K => ⟨mt K, mt (K + 1), K + 1 + 1, K + 1 + 1 + 1, K + 1 + 1 + 1 + 1⟩ :: markC r (K + 5)
theorem rd_set52 {l : List S49} {i : Nat} (h : i < l.length) (v : S49) : rd_T49 (l.set i v) (i : Int) = v := by
  unfold rd_T49
  simp [h]
theorem markc_l : ∀ (r : List S49) (pre : List S49) (K : Int), 0 ≤ K → K + 5 * r.length ≤ 100000000 → pre.length + r.length ≤ 100000000 →
    Ev (fun k => laws_markProbeClashS.l0 k (pre ++ r) K (pre.length : Int)) (K + 5 * r.length, pre ++ markC r K)
  | [], pre, K, _, _, _ => by
    refine Ev.step (f := fun _ => some (K, pre ++ [])) (fun k => ?_) (Ev.is (by simp [markC]))
    simp only [laws_markProbeClashS.l0]
    rw [if_neg (by simp)]
  | x :: r, pre, K, h0, h1, h2 => by
    simp only [List.length_cons] at h1 h2
    have ih := markc_l r (pre ++ [⟨mt K, mt (K + 1), K + 1 + 1, K + 1 + 1 + 1, K + 1 + 1 + 1 + 1⟩]) (K + 5) (by omega) (by omega) (by simp; omega)
    have hp : pre.length < (pre ++ x :: r).length := by simp
    refine Ev.step (f := fun k => (laws_markText.f k K).bind fun t => (laws_markText.f k (K + 1)).bind fun u => laws_markProbeClashS.l0 k (pre ++ ⟨t, u, K + 1 + 1, K + 1 + 1 + 1, K + 1 + 1 + 1 + 1⟩ :: r) (K + 5) ((pre.length + 1 : Nat) : Int)) (fun k => ?_) (Ev.bind (mt_ev (by omega)) (Ev.bind (mt_ev (by omega)) (Ev.eq (Ev.congr (fun k => ?_) ih) ?_)))
    · simp only [laws_markProbeClashS.l0]
      rw [if_pos (by simp; omega)]
      congr 1
      funext t
      rw [if_pos (by omega)]
      simp only [Option.bind_some, Int.toNat_natCast]
      rw [w1 (k := K) (by omega) (by omega)]
      congr 1
      funext u
      rw [w1 (k := K + 1) (by omega) (by omega), w1 (k := K + 1 + 1) (by omega) (by omega), w1 (k := K + 1 + 1 + 1) (by omega) (by omega), w1 (k := K + 1 + 1 + 1 + 1) (by omega) (by omega)]
      simp only [rd_set52 hp, List.set_set]
      rw [List.set_append_right _ _ (Nat.le_refl _), Nat.sub_self, List.set_cons_zero, w64 (n := 100000000) (by omega) (by omega)]
      congr 1
      omega
    · simp
    · simp only [List.length_cons, markC, List.append_assoc, List.cons_append, List.nil_append, Prod.mk.injEq, and_true]
      omega
theorem mark_clashes (l : List S49) (hl : l.length ≤ 10000000) : Ev (fun k => laws_markProbeClashS.f k l 1) (1 + 5 * (l.length : Int), markC l 1) := by
  unfold laws_markProbeClashS.f
  exact markc_l l [] 1 (by omega) (by omega) (by simp; omega)
theorem heldc_l : ∀ (r : List S49) (pre : List S49) (K : Int), 0 ≤ K → K + 5 * r.length ≤ 100000000 → pre.length + r.length ≤ 100000000 →
    Ev (fun k => laws_heldProbeClashS.l0 k (pre ++ markC r K) K (pre.length : Int)) (K + 5 * r.length)
  | [], pre, K, _, _, _ => by
    refine Ev.step (f := fun _ => some K) (fun k => ?_) (Ev.is (by simp))
    simp only [laws_heldProbeClashS.l0, markC, List.append_nil]
    rw [if_neg (by omega)]
  | x :: r, pre, K, h0, h1, h2 => by
    simp only [List.length_cons] at h1 h2
    have ih := heldc_l r (pre ++ [⟨mt K, mt (K + 1), K + 1 + 1, K + 1 + 1 + 1, K + 1 + 1 + 1 + 1⟩]) (K + 5) (by omega) (by omega) (by simp; omega)
    have hr : rd_T49 (pre ++ markC (x :: r) K) (pre.length : Int) = ⟨mt K, mt (K + 1), K + 1 + 1, K + 1 + 1 + 1, K + 1 + 1 + 1 + 1⟩ := by
      unfold rd_T49
      simp [markC]
    refine Ev.step (f := fun k => (laws_markText.f k K).bind fun t => if (mt K).toList = t.toList then (laws_markText.f k (K + 1)).bind fun u => if (mt (K + 1)).toList = u.toList then laws_heldProbeClashS.l0 k (pre ++ markC (x :: r) K) (K + 5) ((pre.length + 1 : Nat) : Int) else some (-1) else some (-1)) (fun k => ?_) (Ev.bind (mt_ev (by omega)) (Ev.pos rfl (Ev.bind (mt_ev (by omega)) (Ev.pos rfl (Ev.eq (Ev.congr (fun k => ?_) ih) ?_)))))
    · simp only [laws_heldProbeClashS.l0]
      rw [if_pos (by simp [markC]; omega), if_pos (by omega), hr]
      congr 1
      funext t
      simp only
      rw [w1 (k := K) (by omega) (by omega), w1 (k := K + 1) (by omega) (by omega), w1 (k := K + 1 + 1) (by omega) (by omega), w1 (k := K + 1 + 1 + 1) (by omega) (by omega), w1 (k := K + 1 + 1 + 1 + 1) (by omega) (by omega)]
      simp only [if_true]
      rw [w64 (n := 100000000) (by omega) (by omega)]
      rw [show K + 1 + 1 + 1 + 1 + 1 = K + 5 by omega]
    · simp [markC]
    · simp only [List.length_cons]
      omega
theorem held_clashes (l : List S49) (hl : l.length ≤ 10000000) : Ev (fun k => laws_heldProbeClashS.f k (markC l 1) 1) (1 + 5 * (l.length : Int)) := by
  unfold laws_heldProbeClashS.f
  exact heldc_l l [] 1 (by omega) (by omega) (by simp; omega)
theorem eq_clash (x : S49) : laws_eqProbeClash.f x.f0 x.f1 x.f2 x.f3 x.f4 x.f0 x.f1 x.f2 x.f3 x.f4 = some true := by simp [laws_eqProbeClash.f]
theorem eq_clashes_l (l : List S49) (hl : l.length ≤ 9223372036854775807) : ∀ i : Nat, i ≤ l.length → Ev (fun k => laws_eqProbeClashS.l0 k l l (i : Int)) true :=
  drop_ind l (P := fun i _ => Ev (fun k => laws_eqProbeClashS.l0 k l l (i : Int)) true)
    (Ev.step (f := fun _ => some true) (fun k => by simp only [laws_eqProbeClashS.l0]; rw [if_neg (by omega)]) (Ev.is rfl))
    (fun i hi ih => by
      refine Ev.step (f := fun k => laws_eqProbeClashS.l0 k l l ((i + 1 : Nat) : Int)) (fun k => ?_) ih
      simp only [laws_eqProbeClashS.l0]
      rw [if_pos (by omega), if_pos (by omega), if_pos (by omega), rd52 hi, eq_clash, w64 hi hl]
      simp)
theorem eq_clashes (l : List S49) (hl : l.length ≤ 9223372036854775807) : Ev (fun k => laws_eqProbeClashS.f k l l) true := by
  unfold laws_eqProbeClashS.f
  exact Ev.pos rfl (eq_clashes_l l hl 0 (by omega))

/-! ### Two by two -/
end Go.Proofs.Ytdbomnhdpniigaa.Q
