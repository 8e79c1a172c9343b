/- What the laws' own helpers compute (sizes, copies, comparisons), and the functions on tubes: sky, smaller, meet, with, free. No condition beside the sizes that are typed. -/
import Derived.Test.YtdbomnhdpniigaaQ1
namespace Go.Proofs.Ytdbomnhdpniigaa.Q
open Go.RowKit Go.Proofs.Ytdbomnhdpniigaa.PA Go.Proofs.YtdbomnhdpniigaaW.PrintWords Go.Proofs.YtdbomnhdpniigaaW.PrintLast Go.Proofs.YtdbomnhdpniigaaW.PrintMore

/-! ### Copies, sizes, comparisons -/
def cv (x : S121) : S95 := ⟨x.f0, x.f1, x.f2, x.f3, x.f4, x.f5⟩
def cvT (x : S35) : S40 := ⟨x.f0, x.f1.map cv⟩
theorem to_boxes_l (l : List S121) (hl : l.length ≤ 5864062014805) : ∀ i : Nat, i ≤ l.length → Ev (fun k => laws_toProbeBoxS.l0 k l ((l.take i).map cv ++ List.replicate (l.length - i) z95) (i : Int)) (l.map cv) :=
  drop_ind l (P := fun i _ => Ev (fun k => laws_toProbeBoxS.l0 k l ((l.take i).map cv ++ List.replicate (l.length - i) z95) (i : Int)) (l.map cv))
    (Ev.step (f := fun _ => some (l.map cv)) (fun k => by simp only [laws_toProbeBoxS.l0]; rw [if_neg (by omega)]; simp) (Ev.is rfl))
    (fun i hi ih => by
      refine Ev.step (f := fun k => laws_toProbeBoxS.l0 k l ((l.take (i + 1)).map cv ++ List.replicate (l.length - (i + 1)) z95) ((i + 1 : Nat) : Int)) (fun k => ?_) ih
      have hr : rd_T121 l (i : Int) = l[i] := by unfold rd_T121; simp [hi]
      simp only [laws_toProbeBoxS.l0]
      rw [if_pos (by omega), if_pos (by omega), hr]
      simp only [laws_toProbeBox.f, Option.bind_some]
      rw [if_pos (by simp; omega), w64 hi (by omega)]
      congr 1
      have e : l.length - i = (l.length - (i + 1)) + 1 := by omega
      rw [e, List.replicate_succ, List.take_succ_eq_append_getElem hi, List.map_append, List.set_append_right _ _ (by simp; omega)]
      have e2 : (i : Int).toNat - ((l.take i).map cv).length = 0 := by simp; omega
      rw [e2, List.set_cons_zero, List.append_assoc]
      rfl)
theorem to_boxes (l : List S121) (hl : l.length ≤ 1048576) : Ev (fun k => laws_toProbeBoxS.f k l) (l.map cv) := by
  refine Ev.congr (f := fun k => laws_toProbeBoxS.l0 k l ((l.take 0).map cv ++ List.replicate (l.length - 0) z95) ((0 : Nat) : Int)) (fun k => ?_) (to_boxes_l l (by omega) 0 (by omega))
  simp only [laws_toProbeBoxS.f]
  rw [if_pos (by omega), if_pos (by omega)]
  simp
theorem to_tube (s : ByteArray) (l : List S121) (hl : l.length ≤ 1048576) : Ev (fun k => laws_toProbeTube.f k s l) (s, l.map cv) := by
  unfold laws_toProbeTube.f
  exact Ev.bind (to_boxes l hl) (Ev.now _)
theorem rd34 {l : List S35} {i : Nat} (h : i < l.length) : rd_T35 l (i : Int) = l[i] := by
  unfold rd_T35
  simp [h]
theorem rd39 {l : List S40} {i : Nat} (h : i < l.length) : rd_T40 l (i : Int) = l[i] := by
  unfold rd_T40
  simp [h]
theorem to_tubes_l (l : List S35) (hl : l.length ≤ 1048576) (hb : ∀ x ∈ l, x.f1.length ≤ 1048576) : ∀ i : Nat, i ≤ l.length → Ev (fun k => laws_toProbeTubeS.l0 k l ((l.take i).map cvT ++ List.replicate (l.length - i) z40) (i : Int)) (l.map cvT) :=
  drop_ind l (P := fun i _ => Ev (fun k => laws_toProbeTubeS.l0 k l ((l.take i).map cvT ++ List.replicate (l.length - i) z40) (i : Int)) (l.map cvT))
    (Ev.step (f := fun _ => some (l.map cvT)) (fun k => by simp only [laws_toProbeTubeS.l0]; rw [if_neg (by omega)]; simp) (Ev.is rfl))
    (fun i hi ih => by
      refine Ev.step (f := fun k => (laws_toProbeTube.f k l[i].f0 l[i].f1).bind fun p => laws_toProbeTubeS.l0 k l (((l.take i).map cvT ++ List.replicate (l.length - i) z40).set i ⟨p.1, p.2⟩) ((i + 1 : Nat) : Int)) (fun k => ?_) (Ev.bind (to_tube _ _ (hb _ (List.getElem_mem hi))) (Ev.congr (fun k => ?_) ih))
      · simp only [laws_toProbeTubeS.l0]
        rw [if_pos (by omega), if_pos (by omega), rd34 hi]
        congr 1
        funext p
        rw [if_pos (by simp; omega), w64 hi (by omega)]
        rfl
      · congr 1
        have e : l.length - i = (l.length - (i + 1)) + 1 := by omega
        rw [e, List.replicate_succ, List.take_succ_eq_append_getElem hi, List.map_append, List.set_append_right _ _ (by simp; omega)]
        have e2 : i - ((l.take i).map cvT).length = 0 := by simp; omega
        rw [e2, List.set_cons_zero, List.append_assoc]
        rfl)
theorem to_tubes (l : List S35) (hl : l.length ≤ 1048576) (hb : ∀ x ∈ l, x.f1.length ≤ 1048576) : Ev (fun k => laws_toProbeTubeS.f k l) (l.map cvT) := by
  refine Ev.congr (f := fun k => laws_toProbeTubeS.l0 k l ((l.take 0).map cvT ++ List.replicate (l.length - 0) z40) ((0 : Nat) : Int)) (fun k => ?_) (to_tubes_l l hl hb 0 (by omega))
  simp only [laws_toProbeTubeS.f]
  rw [if_pos (by omega), if_pos (by omega)]
  simp
theorem eq_box (x : S95) : laws_eqProbeBox.f x.f0 x.f1 x.f2 x.f3 x.f4 x.f5 x.f0 x.f1 x.f2 x.f3 x.f4 x.f5 = some true := by simp [laws_eqProbeBox.f]
theorem eq_boxes_l (l : List S95) (hl : l.length ≤ 9223372036854775807) : ∀ i : Nat, i ≤ l.length → Ev (fun k => laws_eqProbeBoxS.l0 k l l (i : Int)) true :=
  drop_ind l (P := fun i _ => Ev (fun k => laws_eqProbeBoxS.l0 k l l (i : Int)) true)
    (Ev.step (f := fun _ => some true) (fun k => by simp only [laws_eqProbeBoxS.l0]; rw [if_neg (by omega)]) (Ev.is rfl))
    (fun i hi ih => by
      refine Ev.step (f := fun k => laws_eqProbeBoxS.l0 k l l ((i + 1 : Nat) : Int)) (fun k => ?_) ih
      simp only [laws_eqProbeBoxS.l0]
      rw [if_pos (by omega), if_pos (by omega), if_pos (by omega), rd26 hi, eq_box, w64 hi hl]
      simp)
theorem eq_boxes (l : List S95) (hl : l.length ≤ 9223372036854775807) : Ev (fun k => laws_eqProbeBoxS.f k l l) true := by
  unfold laws_eqProbeBoxS.f
  exact Ev.pos rfl (eq_boxes_l l hl 0 (by omega))
theorem eq_tube (s : ByteArray) (l : List S95) (hl : l.length ≤ 9223372036854775807) : Ev (fun k => laws_eqProbeTube.f k s l s l) true := by
  unfold laws_eqProbeTube.f
  exact Ev.pos rfl (Ev.bind (eq_boxes l hl) (Ev.pos rfl (Ev.now true)))
theorem eq_tubes_l (l : List S40) (hl : l.length ≤ 9223372036854775807) (hb : ∀ x ∈ l, x.f1.length ≤ 9223372036854775807) : ∀ i : Nat, i ≤ l.length → Ev (fun k => laws_eqProbeTubeS.l0 k l l (i : Int)) true :=
  drop_ind l (P := fun i _ => Ev (fun k => laws_eqProbeTubeS.l0 k l l (i : Int)) true)
    (Ev.step (f := fun _ => some true) (fun k => by simp only [laws_eqProbeTubeS.l0]; rw [if_neg (by omega)]) (Ev.is rfl))
    (fun i hi ih => by
      refine Ev.step (f := fun k => (laws_eqProbeTube.f k l[i].f0 l[i].f1 l[i].f0 l[i].f1).bind fun t => if t = true then laws_eqProbeTubeS.l0 k l l ((i + 1 : Nat) : Int) else some false) (fun k => ?_) (Ev.bind (eq_tube _ _ (hb _ (List.getElem_mem hi))) (Ev.pos rfl ih))
      simp only [laws_eqProbeTubeS.l0]
      rw [if_pos (by omega), if_pos (by omega), if_pos (by omega), rd39 hi, w64 hi hl])
theorem eq_tubes (l : List S40) (hl : l.length ≤ 9223372036854775807) (hb : ∀ x ∈ l, x.f1.length ≤ 9223372036854775807) : Ev (fun k => laws_eqProbeTubeS.f k l l) true := by
  unfold laws_eqProbeTubeS.f
  exact Ev.pos rfl (eq_tubes_l l hl hb 0 (by omega))
theorem sz_boxes {l : List S121} {n : Int} (h0 : 0 ≤ n) (h1 : n ≤ 1048576) (hl : l.length ≤ maxLen) : (laws_szProbeBoxS.f l n = some (-1) ∧ n < l.length) ∨ (laws_szProbeBoxS.f l n = some (n - l.length) ∧ 0 ≤ n - l.length) := by
  unfold maxLen at hl
  unfold laws_szProbeBoxS.f
  rw [wsub h0 h1 (by omega) (by omega)]
  by_cases h : n - (l.length : Int) < 0
  · exact .inl ⟨by rw [if_pos h], by omega⟩
  · exact .inr ⟨by rw [if_neg h], by omega⟩
theorem sz_tube {s : ByteArray} {l : List S121} {n : Int} (h0 : 0 ≤ n) (h1 : n ≤ 1048576) (hs : s.size ≤ maxLen) (hl : l.length ≤ maxLen) : laws_szProbeTube.f s l n = some (-1) ∨ (laws_szProbeTube.f s l n = some (n - s.size - l.length) ∧ 0 ≤ n - s.size - l.length) := by
  unfold maxLen at hs
  unfold laws_szProbeTube.f
  rw [wsub h0 h1 (by omega) (by omega)]
  by_cases h : n - (s.size : Int) < 0
  · exact .inl (by rw [if_pos h])
  · rw [if_neg h]
    rcases sz_boxes (l := l) (n := n - (s.size : Int)) (by omega) (by omega) hl with ⟨h2, _⟩ | ⟨h2, h3⟩
    · rw [h2]; exact .inl rfl
    · rw [h2]
      refine .inr ⟨?_, h3⟩
      simp only [Option.bind_some]
      rw [if_neg (by omega)]
theorem sz_tubes_l (l : List S35) (hl : l.length ≤ 9223372036854775807) (hg : ∀ x ∈ l, g_tube x) : ∀ i : Nat, i ≤ l.length → ∀ n : Int, 0 ≤ n → n ≤ 1048576 → ∃ m : Int, Ev (fun k => laws_szProbeTubeS.l0 k l n (i : Int)) m ∧ (m = -1 ∨ (0 ≤ m ∧ m ≤ n ∧ ∀ x ∈ l.drop i, x.f1.length ≤ 1048576 ∧ x.f0.size ≤ 1048576)) :=
  drop_ind l (P := fun i r => ∀ n : Int, 0 ≤ n → n ≤ 1048576 → ∃ m : Int, Ev (fun k => laws_szProbeTubeS.l0 k l n (i : Int)) m ∧ (m = -1 ∨ (0 ≤ m ∧ m ≤ n ∧ ∀ x ∈ r, x.f1.length ≤ 1048576 ∧ x.f0.size ≤ 1048576)))
    (fun n h0 h1 => ⟨n, Ev.step (f := fun _ => some n) (fun k => by simp only [laws_szProbeTubeS.l0]; rw [if_neg (by omega)]) (Ev.is rfl), .inr ⟨h0, Int.le_refl _, by simp⟩⟩)
    (fun i hi ih n h0 h1 => by
      have hx := hg _ (List.getElem_mem hi)
      rcases sz_tube (s := l[i].f0) (l := l[i].f1) h0 h1 hx.1 hx.2.1 with h2 | ⟨h2, h3⟩
      · refine ⟨-1, Ev.step (f := fun _ => some (-1)) (fun k => ?_) (Ev.is rfl), .inl rfl⟩
        simp only [laws_szProbeTubeS.l0]
        rw [if_pos (by omega), if_pos (by omega), rd34 hi, h2]
        rfl
      · obtain ⟨m, hm, hr⟩ := ih _ h3 (by omega)
        refine ⟨m, Ev.step (f := fun k => laws_szProbeTubeS.l0 k l (n - l[i].f0.size - l[i].f1.length) ((i + 1 : Nat) : Int)) (fun k => ?_) hm, hr.imp id (fun ⟨a, b, c⟩ => ⟨a, by omega, fun x hx => ?_⟩)⟩
        · simp only [laws_szProbeTubeS.l0]
          rw [if_pos (by omega), if_pos (by omega), rd34 hi, h2, w64 hi hl]
          simp only [Option.bind_some]
          rw [if_neg (by omega)]
        · rcases List.mem_cons.1 hx with rfl | hx
          · constructor <;> omega
          · exact c x hx)
theorem sz_tubes (l : List S35) (hg : g_tubes l) : ∃ m : Int, Ev (fun k => laws_szProbeTubeS.f k l 1048576) m ∧ (m = -1 ∨ (0 ≤ m ∧ m ≤ 1048576 ∧ l.length ≤ 1048576 ∧ ∀ x ∈ l, x.f1.length ≤ 1048576 ∧ x.f0.size ≤ 1048576)) := by
  have hl := hg.1
  unfold maxLen at hl
  have hw : wrap64 (1048576 - (l.length : Int)) = 1048576 - (l.length : Int) := wsub (by omega) (by omega) (by omega) (by omega)
  by_cases h : 1048576 - (l.length : Int) < 0
  · refine ⟨-1, ⟨0, fun k _ => ?_⟩, .inl rfl⟩
    simp only [laws_szProbeTubeS.f]
    rw [hw, if_pos h]
  · obtain ⟨m, hm, hr⟩ := sz_tubes_l l (by omega) hg.2 0 (by omega) (1048576 - (l.length : Int)) (by omega) (by omega)
    refine ⟨m, Ev.congr (fun k => ?_) hm, hr.imp id (fun ⟨a, b, c⟩ => ⟨a, by omega, by omega, by simpa using c⟩)⟩
    simp only [laws_szProbeTubeS.f]
    rw [hw, if_neg h]
    rfl

/-! ### Sky -/
def lt (s t : ByteArray) : Bool := Op.bytesLess s.toList t.toList
/-- Each ok, ascending by name; p: the name ahead of the list's first. -/
def skyFrom : Option ByteArray → List S40 → Bool
  | _, [] => true
  | p, t :: r => tubeOk t.f0 t.f1 && (match p with | none => true | some n => lt n t.f0) && skyFrom (some t.f0) r
def skyOk (l : List S40) : Bool := decide (l.length ≤ 24) && skyFrom none l
def ahead (l : List S40) (i : Nat) : Option ByteArray := if i = 0 then none else some (rd_T40 l ((i : Int) - 1)).f0
theorem ahead_succ {l : List S40} {i : Nat} (h : i < l.length) : ahead l (i + 1) = some l[i].f0 := by
  unfold ahead
  rw [if_neg (by omega), show ((i + 1 : Nat) : Int) - 1 = (i : Int) by omega, rd39 h]
theorem wpred {i n : Nat} (h : i < n) (hn : n ≤ 9223372036854775807) : wrap64 ((i : Int) - 1) = (i : Int) - 1 := by
  unfold wrap64
  omega
theorem spec_sky_l (l : List S40) (hl : l.length ≤ 24) : ∀ i : Nat, i ≤ l.length → Ev (fun k => spec_ProbeSkyOk.l0 k l (i : Int)) (skyFrom (ahead l i) (l.drop i)) :=
  drop_ind l (P := fun i r => Ev (fun k => spec_ProbeSkyOk.l0 k l (i : Int)) (skyFrom (ahead l i) r))
    (Ev.step (f := fun _ => some true) (fun k => by simp only [spec_ProbeSkyOk.l0]; rw [if_neg (by omega)]) (Ev.is rfl))
    (fun i hi ih => by
      refine Ev.step (f := fun k => (spec_ProbeTubeOk.f k l[i].f0 l[i].f1).bind fun t => if t = true then (if (i : Int) > 0 then (if lt (rd_T40 l ((i : Int) - 1)).f0 l[i].f0 = true then spec_ProbeSkyOk.l0 k l ((i + 1 : Nat) : Int) else some false) else spec_ProbeSkyOk.l0 k l ((i + 1 : Nat) : Int)) else some false) (fun k => ?_) ?_
      · simp only [spec_ProbeSkyOk.l0]
        rw [if_pos (by omega), if_pos (by omega), rd39 hi, w64 hi (by omega), wpred hi (by omega)]
        congr 1
        funext t
        by_cases h0 : (i : Int) > 0
        · rw [if_pos h0, if_pos h0, if_pos (show 0 ≤ (i : Int) - 1 by omega), if_pos (show (i : Int) - 1 < (l.length : Int) by omega)]
          rfl
        · rw [if_neg h0, if_neg h0]
      · refine Ev.bind (spec_tube l[i].f0 l[i].f1) ?_
        rw [ahead_succ hi] at ih
        by_cases ht : tubeOk l[i].f0 l[i].f1 = true
        · refine Ev.pos ht ?_
          by_cases h0 : (i : Int) > 0
          · refine Ev.pos h0 ?_
            have ha : ahead l i = some (rd_T40 l ((i : Int) - 1)).f0 := by unfold ahead; rw [if_neg (by omega)]
            by_cases hn : lt (rd_T40 l ((i : Int) - 1)).f0 l[i].f0 = true
            · exact Ev.pos hn (Ev.eq ih (by rw [ha]; simp only [skyFrom, ht, hn, Bool.true_and]))
            · exact Ev.neg hn (Ev.is (by rw [ha]; simp only [skyFrom, ht, hn, Bool.true_and, Bool.false_and]))
          · refine Ev.neg h0 (Ev.eq ih ?_)
            have ha : ahead l i = none := by unfold ahead; rw [if_pos (by omega)]
            rw [ha]
            simp only [skyFrom, ht, Bool.true_and]
        · exact Ev.neg ht (Ev.is (by simp only [skyFrom, ht, Bool.false_and])))
theorem spec_sky (l : List S40) : Ev (fun k => spec_ProbeSkyOk.f k l) (skyOk l) := by
  unfold spec_ProbeSkyOk.f
  by_cases h : l.length ≤ 24
  · exact Ev.neg (by omega) (Ev.eq (spec_sky_l l h 0 (by omega)) (by simp [skyOk, h, ahead]))
  · exact Ev.pos (by omega) (Ev.is (by simp [skyOk, h]))
theorem impl_sky_l (l : List S40) (hl : l.length ≤ 24) : ∀ i : Nat, i ≤ l.length → Ev (fun k => impl_ProbeSkyOk.l0 k l l (l.length : Int) (i : Int)) (skyFrom (ahead l i) (l.drop i)) :=
  drop_ind l (P := fun i r => Ev (fun k => impl_ProbeSkyOk.l0 k l l (l.length : Int) (i : Int)) (skyFrom (ahead l i) r))
    (Ev.step (f := fun _ => some true) (fun k => by simp only [impl_ProbeSkyOk.l0]; rw [if_neg (by omega)]) (Ev.is rfl))
    (fun i hi ih => by
      refine Ev.step (f := fun k => (impl_ProbeTubeOk.f k l[i].f0 l[i].f1).bind fun t => if t = true then (if (i : Int) > 0 then (if lt (rd_T40 l ((i : Int) - 1)).f0 l[i].f0 = true then impl_ProbeSkyOk.l0 k l l (l.length : Int) ((i + 1 : Nat) : Int) else some false) else impl_ProbeSkyOk.l0 k l l (l.length : Int) ((i + 1 : Nat) : Int)) else some false) (fun k => ?_) ?_
      · simp only [impl_ProbeSkyOk.l0]
        rw [if_pos (by omega), if_pos (by omega), if_pos (by omega), rd39 hi, w64 hi (by omega), wpred hi (by omega)]
        congr 1
        funext t
        by_cases h0 : (i : Int) > 0
        · rw [if_pos h0, if_pos h0, if_pos (show 0 ≤ (i : Int) - 1 by omega), if_pos (show (i : Int) - 1 < (l.length : Int) by omega)]
          rfl
        · rw [if_neg h0, if_neg h0]
      · refine Ev.bind (impl_tube l[i].f0 l[i].f1) ?_
        rw [ahead_succ hi] at ih
        by_cases ht : tubeOk l[i].f0 l[i].f1 = true
        · refine Ev.pos ht ?_
          by_cases h0 : (i : Int) > 0
          · refine Ev.pos h0 ?_
            have ha : ahead l i = some (rd_T40 l ((i : Int) - 1)).f0 := by unfold ahead; rw [if_neg (by omega)]
            by_cases hn : lt (rd_T40 l ((i : Int) - 1)).f0 l[i].f0 = true
            · exact Ev.pos hn (Ev.eq ih (by rw [ha]; simp only [skyFrom, ht, hn, Bool.true_and]))
            · exact Ev.neg hn (Ev.is (by rw [ha]; simp only [skyFrom, ht, hn, Bool.true_and, Bool.false_and]))
          · refine Ev.neg h0 (Ev.eq ih ?_)
            have ha : ahead l i = none := by unfold ahead; rw [if_pos (by omega)]
            rw [ha]
            simp only [skyFrom, ht, Bool.true_and]
        · exact Ev.neg ht (Ev.is (by simp only [skyFrom, ht, Bool.false_and])))
theorem impl_sky (l : List S40) : Ev (fun k => impl_ProbeSkyOk.f k l) (skyOk l) := by
  unfold impl_ProbeSkyOk.f
  by_cases h : l.length ≤ 24
  · exact Ev.neg (by omega) (Ev.eq (impl_sky_l l h 0 (by omega)) (by simp [skyOk, h, ahead]))
  · exact Ev.pos (by omega) (Ev.is (by simp [skyOk, h]))
end Go.Proofs.Ytdbomnhdpniigaa.Q
