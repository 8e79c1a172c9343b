/- Indexes: sizes, copies, comparison, marks. No condition beside the sizes that are typed. Asking an index: program (a map from names to the soonest clash, its keys sorted) and reference (the names in order, each one's soonest clash): one list. The plain laws. Asking an index: the program's loops make the map cM, the reference's the names nC and each one's soonest cF. No condition beside the sizes that are typed. Asking an index, the reference: the names in order (nC), each one's soonest (cF); both ways' lists are one. No condition beside the sizes that are typed. -/
import Derived.Test.YtdbomnhdpniigaaQ9
import Derived.Sort.Walk0
section
namespace Go.Proofs.Ytdbomnhdpniigaa.Q
open Go.RowKit Go.Proofs.Ytdbomnhdpniigaa.PA Go.Proofs.YtdbomnhdpniigaaW.PrintWords Go.Proofs.YtdbomnhdpniigaaW.PrintLast Go.Proofs.YtdbomnhdpniigaaW.PrintMore
theorem rd182 {l : List S182} {i : Nat} (h : i < l.length) : rd_T182 l (i : Int) = l[i] := by
  unfold rd_T182
  simp [h]
theorem rd147 {l : List S147} {i : Nat} (h : i < l.length) : rd_T147 l (i : Int) = l[i] := by
  unfold rd_T147
  simp [h]
theorem rd101 {l : List S101} {i : Nat} (h : i < l.length) : rd_T101 l (i : Int) = l[i] := by
  unfold rd_T101
  simp [h]
theorem rd105 {l : List S105} {i : Nat} (h : i < l.length) : rd_T105 l (i : Int) = l[i] := by
  unfold rd_T105
  simp [h]
def cvS (x : S182) : S101 := ⟨x.f0, x.f1, x.f2, x.f3, x.f4, x.f5⟩
def cvC (x : S147) : S105 := ⟨x.f0, x.f1, x.f2.map cvS⟩
/-! ### Copies -/
theorem to_slots_l (l : List S182) (hl : l.length ≤ 1048576) : ∀ i : Nat, i ≤ l.length → Ev (fun k => laws_toProbeSlotS.l0 k l ((l.take i).map cvS ++ List.replicate (l.length - i) z101) (i : Int)) (l.map cvS) :=
  drop_ind l (P := fun i _ => Ev (fun k => laws_toProbeSlotS.l0 k l ((l.take i).map cvS ++ List.replicate (l.length - i) z101) (i : Int)) (l.map cvS))
    (Ev.step (f := fun _ => some (l.map cvS)) (fun k => by simp only [laws_toProbeSlotS.l0]; rw [if_neg (by omega)]; simp) (Ev.is rfl))
    (fun i hi ih => by
      refine Ev.step (f := fun k => laws_toProbeSlotS.l0 k l ((l.take (i + 1)).map cvS ++ List.replicate (l.length - (i + 1)) z101) ((i + 1 : Nat) : Int)) (fun k => ?_) ih
      simp only [laws_toProbeSlotS.l0]
      rw [if_pos (by omega), if_pos (by omega), rd182 hi]
      simp only [laws_toProbeSlot.f, Option.bind_some]
      rw [if_pos (by simp; omega), w64 hi (by omega)]
      congr 1
      have e : l.length - i = (l.length - (i + 1)) + 1 := by omega
      rw [e, List.replicate_succ, List.take_succ_eq_append_getElem hi, List.map_append, List.set_append_right _ _ (by simp; omega)]
      have e2 : (i : Int).toNat - ((l.take i).map cvS).length = 0 := by simp; omega
      rw [e2, List.set_cons_zero, List.append_assoc]
      rfl)
theorem to_slots (l : List S182) (hl : l.length ≤ 1048576) : Ev (fun k => laws_toProbeSlotS.f k l) (l.map cvS) := by
  refine Ev.congr (f := fun k => laws_toProbeSlotS.l0 k l ((l.take 0).map cvS ++ List.replicate (l.length - 0) z101) ((0 : Nat) : Int)) (fun k => ?_) (to_slots_l l hl 0 (by omega))
  simp only [laws_toProbeSlotS.f]
  rw [if_pos (by omega), if_pos (by omega)]
  simp
theorem to_cell (x y : Int) (l : List S182) (hl : l.length ≤ 1048576) : Ev (fun k => laws_toProbeCell.f k x y l) (x, y, l.map cvS) := by
  unfold laws_toProbeCell.f
  exact Ev.bind (to_slots l hl) (Ev.now _)
theorem to_cells_l (l : List S147) (hl : l.length ≤ 1048576) (hb : ∀ x ∈ l, x.f2.length ≤ 1048576) : ∀ i : Nat, i ≤ l.length → Ev (fun k => laws_toProbeCellS.l0 k l ((l.take i).map cvC ++ List.replicate (l.length - i) z105) (i : Int)) (l.map cvC) :=
  drop_ind l (P := fun i _ => Ev (fun k => laws_toProbeCellS.l0 k l ((l.take i).map cvC ++ List.replicate (l.length - i) z105) (i : Int)) (l.map cvC))
    (Ev.step (f := fun _ => some (l.map cvC)) (fun k => by simp only [laws_toProbeCellS.l0]; rw [if_neg (by omega)]; simp) (Ev.is rfl))
    (fun i hi ih => by
      refine Ev.step (f := fun k => (laws_toProbeCell.f k l[i].f0 l[i].f1 l[i].f2).bind fun p => laws_toProbeCellS.l0 k l (((l.take i).map cvC ++ List.replicate (l.length - i) z105).set i ⟨p.1, p.2.1, p.2.2⟩) ((i + 1 : Nat) : Int)) (fun k => ?_) (Ev.bind (to_cell _ _ _ (hb _ (List.getElem_mem hi))) (Ev.congr (fun k => ?_) ih))
      · simp only [laws_toProbeCellS.l0]
        rw [if_pos (by omega), if_pos (by omega), rd147 hi]
        congr 1
        funext p
        rw [if_pos (by simp; omega), w64 hi (by omega)]
        rfl
      · congr 1
        have e : l.length - i = (l.length - (i + 1)) + 1 := by omega
        rw [e, List.replicate_succ, List.take_succ_eq_append_getElem hi, List.map_append, List.set_append_right _ _ (by simp; omega)]
        have e2 : i - ((l.take i).map cvC).length = 0 := by simp; omega
        rw [e2, List.set_cons_zero, List.append_assoc]
        rfl)
theorem to_index (l : List S147) (hl : l.length ≤ 1048576) (hb : ∀ x ∈ l, x.f2.length ≤ 1048576) : Ev (fun k => laws_toProbeIndex.f k l) (l.map cvC) := by
  unfold laws_toProbeIndex.f
  refine Ev.bind (r := l.map cvC) (Ev.congr (f := fun k => laws_toProbeCellS.l0 k l ((l.take 0).map cvC ++ List.replicate (l.length - 0) z105) ((0 : Nat) : Int)) (fun k => ?_) (to_cells_l l hl hb 0 (by omega))) (Ev.now _)
  simp only [laws_toProbeCellS.f]
  rw [if_pos (by omega), if_pos (by omega)]
  simp
/-! ### Comparison -/
theorem eq_slot (x : S101) : laws_eqProbeSlot.f x.f0 x.f1 x.f2 x.f3 x.f4 x.f5 x.f0 x.f1 x.f2 x.f3 x.f4 x.f5 = some true := by simp [laws_eqProbeSlot.f]
theorem eq_slots_l (l : List S101) (hl : l.length ≤ 9223372036854775807) : ∀ i : Nat, i ≤ l.length → Ev (fun k => laws_eqProbeSlotS.l0 k l l (i : Int)) true :=
  drop_ind l (P := fun i _ => Ev (fun k => laws_eqProbeSlotS.l0 k l l (i : Int)) true)
    (Ev.step (f := fun _ => some true) (fun k => by simp only [laws_eqProbeSlotS.l0]; rw [if_neg (by omega)]) (Ev.is rfl))
    (fun i hi ih => by
      refine Ev.step (f := fun k => laws_eqProbeSlotS.l0 k l l ((i + 1 : Nat) : Int)) (fun k => ?_) ih
      simp only [laws_eqProbeSlotS.l0]
      rw [if_pos (by omega), if_pos (by omega), if_pos (by omega), rd101 hi, eq_slot, w64 hi hl]
      rfl)
theorem eq_slots (l : List S101) (hl : l.length ≤ 9223372036854775807) : Ev (fun k => laws_eqProbeSlotS.f k l l) true := by
  unfold laws_eqProbeSlotS.f
  exact Ev.pos rfl (eq_slots_l l hl 0 (by omega))
theorem eq_cell (x y : Int) (l : List S101) (hl : l.length ≤ 9223372036854775807) : Ev (fun k => laws_eqProbeCell.f k x y l x y l) true := by
  unfold laws_eqProbeCell.f
  exact Ev.pos rfl (Ev.pos rfl (Ev.bind (eq_slots l hl) (Ev.pos rfl (Ev.now true))))
theorem eq_cells_l (l : List S105) (hl : l.length ≤ 9223372036854775807) (hb : ∀ x ∈ l, x.f2.length ≤ 9223372036854775807) : ∀ i : Nat, i ≤ l.length → Ev (fun k => laws_eqProbeCellS.l0 k l l (i : Int)) true :=
  drop_ind l (P := fun i _ => Ev (fun k => laws_eqProbeCellS.l0 k l l (i : Int)) true)
    (Ev.step (f := fun _ => some true) (fun k => by simp only [laws_eqProbeCellS.l0]; rw [if_neg (by omega)]) (Ev.is rfl))
    (fun i hi ih => by
      refine Ev.step (f := fun k => (laws_eqProbeCell.f k l[i].f0 l[i].f1 l[i].f2 l[i].f0 l[i].f1 l[i].f2).bind fun t => if t = true then laws_eqProbeCellS.l0 k l l ((i + 1 : Nat) : Int) else some false) (fun k => ?_) (Ev.bind (eq_cell _ _ _ (hb _ (List.getElem_mem hi))) (Ev.pos rfl ih))
      simp only [laws_eqProbeCellS.l0]
      rw [if_pos (by omega), if_pos (by omega), if_pos (by omega), rd105 hi, w64 hi hl])
theorem eq_index (l : List S105) (hl : l.length ≤ 9223372036854775807) (hb : ∀ x ∈ l, x.f2.length ≤ 9223372036854775807) : Ev (fun k => laws_eqProbeIndex.f k l l) true := by
  unfold laws_eqProbeIndex.f
  refine Ev.bind (r := true) ?_ (Ev.pos rfl (Ev.now true))
  unfold laws_eqProbeCellS.f
  exact Ev.pos rfl (eq_cells_l l hl hb 0 (by omega))
/-! ### Marks: how many -/
theorem ex_map {α : Type} {F G : Nat → Option (Int × α)} {n : Int} (h : ∀ r, Ev G (n, r) → Ev F (n, r)) (g : ∃ r, Ev G (n, r)) : ∃ r, Ev F (n, r) := g.imp h
theorem slots_mark : ∀ (m i : Nat) (l : List S101) (K : Int), i + m = l.length → l.length ≤ 1048576 → 0 ≤ K → K + 6 * m ≤ 100000000000000 → ∃ r, Ev (fun k => laws_markProbeSlotS.l0 k l K (i : Int)) (K + 6 * m, r)
  | 0, i, l, K, hi, hl, h0, h1 => ⟨l, Ev.step (fun k => laws_markProbeSlotS.l0.eq_2 ..) (Ev.neg (by omega) (Ev.is (by simp)))⟩
  | m + 1, i, l, K, hi, hl, h0, h1 => by
    have e1 : wrap64 (K + 1) = K + 1 := w1 h0 (by omega)
    have e2 : wrap64 (K + 1 + 1) = K + 2 := by rw [w1 (by omega) (by omega)]; omega
    have e3 : wrap64 (K + 2 + 1) = K + 3 := by rw [w1 (by omega) (by omega)]; omega
    have e4 : wrap64 (K + 3 + 1) = K + 4 := by rw [w1 (by omega) (by omega)]; omega
    have e5 : wrap64 (K + 4 + 1) = K + 5 := by rw [w1 (by omega) (by omega)]; omega
    have e6 : wrap64 (K + 5 + 1) = K + 6 := by rw [w1 (by omega) (by omega)]; omega
    have ih := fun (y : List S101) (hy : y.length = l.length) => slots_mark m (i + 1) y (K + 6) (by omega) (by omega) (by omega) (by omega)
    have fin : ∀ y : List S101, y.length = l.length → ∀ F : Nat → Option (Int × List S101), (∀ k, F k = laws_markProbeSlotS.l0 k y (K + 6) ((i + 1 : Nat) : Int)) → ∃ r, Ev F (K + 6 * ((m + 1 : Nat) : Int), r) := fun y hy F hF => by
      obtain ⟨r, hr⟩ := ih y hy
      exact ⟨r, Ev.eq (Ev.congr hF hr) (by congr 1; omega)⟩
    refine ex_map (fun _ h => Ev.step (fun k => laws_markProbeSlotS.l0.eq_2 ..) (Ev.pos (by omega) (Ev.pos (by omega) h))) ?_
    simp only [Option.bind_some, e1, e2, e3, e4, e5, e6]
    refine ex_map (fun _ h => Ev.bind (mt_ev (by omega)) h) ?_
    refine fin _ ?_ _ (fun k => by rw [w64 (show i < l.length by omega) (by omega)])
    simp only [List.length_set]
theorem slots_mark' (l : List S101) (hl : l.length ≤ 1048576) {K : Int} (h0 : 0 ≤ K) (h1 : K + 6 * l.length ≤ 100000000000000) : ∃ r, Ev (fun k => laws_markProbeSlotS.f k l K) (K + 6 * l.length, r) := by
  unfold laws_markProbeSlotS.f
  exact slots_mark l.length 0 l K (by omega) hl h0 h1
def cntC : List S105 → Nat
  | [] => 0
  | c :: r => 2 + 6 * c.f2.length + cntC r
theorem cells_mark : ∀ (pre r : List S105) (K : Int), (pre.length + r.length ≤ 1048576) → (∀ c ∈ r, c.f2.length ≤ 1048576) → 0 ≤ K → K + cntC r ≤ 100000000000000 → ∃ z, Ev (fun k => laws_markProbeCellS.l0 k (pre ++ r) K (pre.length : Int)) (K + cntC r, z)
  | pre, [], K, hl, hb, h0, h1 => ⟨pre ++ [], Ev.step (fun k => laws_markProbeCellS.l0.eq_2 ..) (Ev.neg (by simp) (Ev.is (by simp [cntC])))⟩
  | pre, c :: r, K, hl, hb, h0, h1 => by
    have hc := hb c (by simp)
    simp only [List.length_cons, cntC] at hl h1
    have e1 : wrap64 (K + 1) = K + 1 := w1 h0 (by omega)
    have e2 : wrap64 (K + 1 + 1) = K + 2 := by rw [w1 (by omega) (by omega)]; omega
    obtain ⟨z, hz⟩ := slots_mark' c.f2 hc (K := K + 2) (by omega) (by omega)
    have hg : ∀ v : S105, rd_T105 (pre ++ v :: r) (pre.length : Int) = v := fun v => by unfold rd_T105; simp [List.getD]
    have hset : ∀ u v : S105, (pre ++ u :: r).set ((pre.length : Int)).toNat v = pre ++ v :: r := fun u v => by simp
    refine ex_map (fun _ h => Ev.step (fun k => laws_markProbeCellS.l0.eq_2 ..) (Ev.pos (by simp; omega) (Ev.pos (by omega) h))) ?_
    simp only [Option.bind_some, e1, e2, hset, hg]
    refine ex_map (fun _ h => Ev.bind hz h) ?_
    obtain ⟨y, hy⟩ := cells_mark (pre ++ [⟨K, K + 1, z⟩]) r (K + 2 + 6 * c.f2.length) (by simp; omega) (fun x hx => hb x (by simp [hx])) (by omega) (by omega)
    refine ⟨y, Ev.eq (Ev.congr (fun k => ?_) hy) (by congr 1; simp only [cntC]; omega)⟩
    rw [w64 (n := pre.length + 1) (by omega) (by omega)]
    simp
theorem mark_index (l : List S105) (hl : l.length ≤ 1048576) (hb : ∀ c ∈ l, c.f2.length ≤ 1048576) (h1 : 1 + (cntC l : Int) ≤ 100000000000000) : Ev (fun k => laws_markProbeIndex.f k l 1) (1 + cntC l) := by
  unfold laws_markProbeIndex.f
  obtain ⟨z, hz⟩ := cells_mark [] l 1 (by simp; omega) hb (by omega) h1
  have hf : Ev (fun k => laws_markProbeCellS.f k l 1) (1 + (cntC l : Int), z) := Ev.congr (fun k => rfl) hz
  exact Ev.bind hf (Ev.now _)
theorem cntC_le : ∀ (l : List S105), (∀ c ∈ l, c.f2.length ≤ 1048576) → cntC l ≤ 8000000 * l.length
  | [], _ => by simp [cntC]
  | c :: r, h => by
    have := cntC_le r (fun x hx => h x (by simp [hx]))
    have := h c (by simp)
    simp only [cntC, List.length_cons]
    omega
end Go.Proofs.Ytdbomnhdpniigaa.Q
end
section
namespace Go.Proofs.Ytdbomnhdpniigaa.Q
open Go.RowKit Go.Proofs.Ytdbomnhdpniigaa.PA Go.Proofs.YtdbomnhdpniigaaW.PrintWords Go.Proofs.YtdbomnhdpniigaaW.PrintLast Go.Proofs.YtdbomnhdpniigaaW.PrintMore
open Mp (MS mget mhas mput mnames mfind keyL sorted)
/-! ### Names -/
theorem toList_iff {s t : ByteArray} : s.toList = t.toList ↔ s = t := by
  rw [Lib.toList_data, Lib.toList_data]
  constructor
  · intro h
    cases s with | mk a => cases t with | mk b => simpa using h
  · rintro rfl; rfl
theorem lt_iff {s t : ByteArray} : Op.bytesLess s.toList t.toList = true ↔ s.data.toList < t.data.toList := by
  rw [bytesLess_eq, Lib.toList_data, Lib.toList_data, decide_eq_true_eq]
/-- A name put into its place, if it isn't there. -/
def insN (s : ByteArray) : List ByteArray → List ByteArray
  | [] => [s]
  | y :: r => if Op.bytesLess y.toList s.toList = true then y :: insN s r else if y.toList = s.toList then y :: r else s :: y :: r
def Asc2 (l : List ByteArray) : Prop := l.Pairwise fun x y => x.data.toList < y.data.toList
theorem mem_insN {s n : ByteArray} : ∀ {l : List ByteArray}, n ∈ insN s l ↔ n = s ∨ n ∈ l
  | [] => by simp [insN]
  | y :: r => by
    unfold insN
    split
    · simp only [List.mem_cons, mem_insN (l := r)]
      constructor
      · rintro (h | h | h) <;> simp [h]
      · rintro (h | h | h) <;> simp [h]
    · split
      · rename_i h
        have := toList_iff.1 h
        subst this
        simp
      · simp
theorem len_insN {s : ByteArray} : ∀ {l : List ByteArray}, (insN s l).length ≤ l.length + 1
  | [] => by simp [insN]
  | y :: r => by
    unfold insN
    have := len_insN (s := s) (l := r)
    split
    · simp only [List.length_cons]; omega
    · split <;> simp
theorem asc_insN {s : ByteArray} : ∀ {l : List ByteArray}, Asc2 l → Asc2 (insN s l)
  | [], _ => by simp [insN, Asc2]
  | y :: r, h => by
    obtain ⟨h1, h2⟩ := List.pairwise_cons.1 h
    unfold insN
    split
    · rename_i hl
      refine List.pairwise_cons.2 ⟨fun z hz => ?_, asc_insN h2⟩
      rcases mem_insN.1 hz with rfl | hz
      · exact lt_iff.1 hl
      · exact h1 z hz
    · rename_i hl
      split
      · exact h
      · rename_i hne
        have hys : s.data.toList < y.data.toList := by
          rw [lt_iff] at hl
          have hle : s.data.toList ≤ y.data.toList := hl
          rcases Decidable.em (s.data.toList < y.data.toList) with h3 | h3
          · exact h3
          · have : s.data.toList = y.data.toList := List.le_antisymm hle h3
            exact absurd (by rw [Lib.toList_data, Lib.toList_data, this]) hne
        refine List.pairwise_cons.2 ⟨fun z hz => ?_, h⟩
        rcases List.mem_cons.1 hz with rfl | hz
        · exact hys
        · exact List.lt_trans hys (h1 z hz)
/-- Two ascending lists of the same names are one. -/
theorem asc_eq {l l' : List ByteArray} (h : Asc2 l) (h' : Asc2 l') (hm : ∀ n, n ∈ l ↔ n ∈ l') : l = l' := by
  have nd : ∀ {l : List ByteArray}, Asc2 l → l.Nodup := fun h => h.imp (fun {a b} hab e => by subst e; exact List.lt_irrefl _ hab)
  refine List.Perm.eq_of_pairwise (le := fun a b : ByteArray => a.data.toList < b.data.toList) (fun a b _ _ h1 h2 => absurd (List.lt_trans h1 h2) (List.lt_irrefl _)) h h' ((List.perm_ext_iff_of_nodup (nd h) (nd h')).2 hm)
/-! ### The map's list -/
theorem mfind_some {s : ByteArray} : ∀ {M : MS} {i : Nat}, (mfind s M i).isSome = M.any fun p => decide (p.1 = s)
  | [], i => rfl
  | p :: r, i => by
    unfold mfind
    by_cases h : s = p.1
    · simp [h]
    · have : ¬ p.1 = s := fun e => h e.symm
      simp only [if_neg h, List.any_cons, this, decide_false, Bool.false_or]
      exact mfind_some
theorem has_iff {M : MS} {s : ByteArray} : mhas M s = true ↔ s ∈ M.map Prod.fst := by
  unfold mhas
  rw [mfind_some, List.any_eq_true, List.mem_map]
  constructor
  · rintro ⟨p, hp, h⟩; exact ⟨p, hp, of_decide_eq_true h⟩
  · rintro ⟨p, hp, h⟩; exact ⟨p, hp, decide_eq_true h⟩
theorem keys_put {M : MS} {s : ByteArray} {c : S49} : (mput M s c).map Prod.fst = if mhas M s = true then M.map Prod.fst else M.map Prod.fst ++ [s] := by
  unfold mput mhas
  cases h : mfind s M 0 with
  | none => simp
  | some p =>
    obtain ⟨i, d⟩ := p
    obtain ⟨_, h2⟩ := Mp.mfind_get s M 0 h
    simp only [Option.isSome_some, if_true, List.map_set]
    refine List.ext_getElem? fun j => ?_
    rw [List.getElem?_set]
    split
    · rename_i e
      subst e
      rw [List.getElem?_map]
      have h2' : M[i]? = some (s, d) := by simpa using h2
      obtain ⟨hl, hg⟩ := List.getElem?_eq_some_iff.1 h2'
      simp [hl, hg]
    · rfl
theorem has_put {M : MS} {s n : ByteArray} {c : S49} : mhas (mput M s c) n = (decide (n = s) || mhas M n) := by
  rw [Bool.eq_iff_iff, has_iff, keys_put, Bool.or_eq_true, decide_eq_true_eq]
  by_cases h : mhas M s = true
  · rw [if_pos h, ← has_iff]
    exact ⟨.inr, fun h' => h'.elim (fun e => e ▸ h) id⟩
  · rw [if_neg h, List.mem_append, List.mem_singleton, ← has_iff]
    exact or_comm
theorem mfind_app {s : ByteArray} {c : S49} : ∀ {M : MS} {i : Nat}, mfind s M i = none → mfind s (M ++ [(s, c)]) i = some (i + M.length, c)
  | [], i, _ => by simp [mfind]
  | p :: r, i, h => by
    unfold mfind at h
    by_cases e : s = p.1
    · simp [e] at h
    · rw [if_neg e] at h
      show mfind s (p :: (r ++ [(s, c)])) i = _
      unfold mfind
      rw [if_neg e, mfind_app h]
      simp; omega
theorem mfind_app_ne {s n : ByteArray} {c : S49} (hn : n ≠ s) : ∀ {M : MS} {i : Nat}, mfind n (M ++ [(s, c)]) i = mfind n M i
  | [], i => by simp [mfind, hn]
  | p :: r, i => by
    show mfind n (p :: (r ++ [(s, c)])) i = _
    unfold mfind
    rw [mfind_app_ne hn]
theorem mfind_set {s : ByteArray} {c d : S49} : ∀ {M : MS} {i j : Nat}, mfind s M i = some (j, d) → mfind s (M.set (j - i) (s, c)) i = some (j, c)
  | [], i, j, h => by simp [mfind] at h
  | p :: r, i, j, h => by
    unfold mfind at h
    by_cases e : s = p.1
    · rw [if_pos e] at h
      cases h
      rw [Nat.sub_self, List.set_cons_zero]
      simp [mfind]
    · rw [if_neg e] at h
      obtain ⟨h1, _⟩ := Mp.mfind_get s r (i + 1) h
      rw [show j - i = (j - (i + 1)) + 1 by omega, List.set_cons_succ]
      unfold mfind
      rw [if_neg e]
      exact mfind_set h
theorem mfind_set_ne {s n : ByteArray} {c d : S49} (hn : n ≠ s) : ∀ {M : MS} {i j : Nat}, mfind s M i = some (j, d) → (mfind n (M.set (j - i) (s, c)) i).map Prod.snd = (mfind n M i).map Prod.snd
  | [], i, j, h => by simp [mfind] at h
  | p :: r, i, j, h => by
    unfold mfind at h
    by_cases e : s = p.1
    · rw [if_pos e] at h
      cases h
      rw [Nat.sub_self, List.set_cons_zero]
      unfold mfind
      rw [if_neg hn, if_neg (fun e2 => hn (e2.trans e.symm))]
    · rw [if_neg e] at h
      obtain ⟨h1, _⟩ := Mp.mfind_get s r (i + 1) h
      rw [show j - i = (j - (i + 1)) + 1 by omega, List.set_cons_succ]
      unfold mfind
      by_cases e2 : n = p.1
      · rw [if_pos e2, if_pos e2]
      · rw [if_neg e2, if_neg e2]
        exact mfind_set_ne hn h
theorem get_put {M : MS} {s : ByteArray} {c : S49} : mget (mput M s c) s = c := by
  unfold mget mput
  cases h : mfind s M 0 with
  | none => simp [mfind_app h]
  | some p =>
    obtain ⟨i, d⟩ := p
    have := mfind_set (c := c) h
    simp only [Nat.sub_zero] at this
    simp [this]
theorem get_put_ne {M : MS} {s n : ByteArray} {c : S49} (hn : n ≠ s) : mget (mput M s c) n = mget M n := by
  unfold mget mput
  cases h : mfind s M 0 with
  | none => simp [mfind_app_ne hn]
  | some p =>
    obtain ⟨i, d⟩ := p
    have := mfind_set_ne (c := c) hn h
    simp only [Nat.sub_zero] at this
    simp [this]
theorem nodup_put {M : MS} {s : ByteArray} {c : S49} (h : (M.map Prod.fst).Nodup) : ((mput M s c).map Prod.fst).Nodup := by
  rw [keys_put]
  split
  · exact h
  · rename_i hn
    rw [has_iff] at hn
    exact List.nodup_append.2 ⟨h, by simp, fun a ha b hb e => by simp at hb; subst hb; subst e; exact hn ha⟩
theorem len_put {M : MS} {s : ByteArray} {c : S49} : (mput M s c).length = if mhas M s = true then M.length else M.length + 1 := by
  have := congrArg List.length (keys_put (M := M) (s := s) (c := c))
  rw [List.length_map] at this
  rw [this]
  split <;> simp
/-! ### The soonest -/
def cl (b : S95) (c : S105) (s : S101) : Int × Bool := if boxOk b.f0 b.f1 b.f2 b.f3 b.f4 b.f5 = true ∧ boxOk c.f0 c.f1 s.f2 s.f3 s.f0 s.f1 = true then near b.f0 b.f1 b.f2 b.f3 b.f4 b.f5 c.f0 c.f1 s.f2 s.f3 s.f0 s.f1 else (0, false)
def ahd (t i a : Int) (o : S49) : Bool := if t = o.f2 then (if i = o.f3 then decide (a < o.f4) else decide (i < o.f3)) else decide (t < o.f2)
/-- A box of the tube against a slot: the map behind it. -/
def sB (t : ByteArray) (c : S105) (s : S101) (M : MS) (j : Nat) (b : S95) : MS := if (cl b c s).2 = true then (if mhas M s.f4 = true then (if ahd (cl b c s).1 j s.f5 (mget M s.f4) = true then mput M s.f4 ⟨t, s.f4, (cl b c s).1, j, s.f5⟩ else M) else mput M s.f4 ⟨t, s.f4, (cl b c s).1, j, s.f5⟩) else M
def bM (t : ByteArray) (c : S105) (s : S101) : List S95 → Nat → MS → MS
  | [], _, M => M
  | b :: r, j, M => bM t c s r (j + 1) (sB t c s M j b)
def sM (t : ByteArray) (l : List S95) (c : S105) : List S101 → MS → MS
  | [], M => M
  | s :: r, M => sM t l c r (if s.f4.toList = t.toList then M else bM t c s l 0 M)
def cM (t : ByteArray) (l : List S95) : List S105 → MS → MS
  | [], M => M
  | c :: r, M => cM t l r (sM t l c c.f2 M)
/-- One name's soonest, by the reference: found, and which. -/
def sF (t : ByteArray) (c : S105) (s : S101) (st : Bool × S49) (j : Nat) (b : S95) : Bool × S49 := if (cl b c s).2 = true then (if st.1 = true then (if ahd (cl b c s).1 j s.f5 st.2 = true then (true, ⟨t, s.f4, (cl b c s).1, j, s.f5⟩) else st) else (true, ⟨t, s.f4, (cl b c s).1, j, s.f5⟩)) else st
def bF (t : ByteArray) (c : S105) (s : S101) : List S95 → Nat → Bool × S49 → Bool × S49
  | [], _, st => st
  | b :: r, j, st => bF t c s r (j + 1) (sF t c s st j b)
def ssF (n t : ByteArray) (l : List S95) (c : S105) : List S101 → Bool × S49 → Bool × S49
  | [], st => st
  | s :: r, st => ssF n t l c r (if s.f4.toList = n.toList then bF t c s l 0 st else st)
def cF (n t : ByteArray) (l : List S95) : List S105 → Bool × S49 → Bool × S49
  | [], st => st
  | c :: r, st => cF n t l r (ssF n t l c c.f2 st)
def Agree (n : ByteArray) (M : MS) (st : Bool × S49) : Prop := mhas M n = st.1 ∧ (st.1 = true → mget M n = st.2)
theorem agree_B {n t : ByteArray} {c : S105} {s : S101} (h : s.f4 = n) : ∀ (r : List S95) (j : Nat) (M : MS) (st : Bool × S49), Agree n M st → Agree n (bM t c s r j M) (bF t c s r j st)
  | [], _, _, _, h1 => h1
  | b :: r, j, M, st, h1 => by
    refine agree_B h r (j + 1) _ _ ?_
    unfold sB sF
    subst h
    by_cases hc : (cl b c s).2 = true
    · rw [if_pos hc, if_pos hc, h1.1]
      by_cases hs : st.1 = true
      · rw [if_pos hs, if_pos hs, h1.2 hs]
        split
        · exact ⟨by simp [has_put], fun _ => get_put⟩
        · exact h1
      · rw [if_neg hs, if_neg hs]
        exact ⟨by simp [has_put], fun _ => get_put⟩
    · rw [if_neg hc, if_neg hc]
      exact h1
theorem agree_ne {n t : ByteArray} {c : S105} {s : S101} (h : s.f4 ≠ n) : ∀ (r : List S95) (j : Nat) (M : MS) (st : Bool × S49), Agree n M st → Agree n (bM t c s r j M) st
  | [], _, _, _, h1 => h1
  | b :: r, j, M, st, h1 => by
    refine agree_ne h r (j + 1) _ _ ?_
    have put : ∀ c : S49, Agree n (mput M s.f4 c) st := fun c => ⟨by rw [has_put, h1.1]; simp [h.symm], fun hs => by rw [get_put_ne h.symm]; exact h1.2 hs⟩
    unfold sB
    split
    · split
      · split
        · exact put _
        · exact h1
      · exact put _
    · exact h1
theorem agree_S {n t : ByteArray} {l : List S95} {c : S105} (hn : n ≠ t) : ∀ (r : List S101) (M : MS) (st : Bool × S49), Agree n M st → Agree n (sM t l c r M) (ssF n t l c r st)
  | [], _, _, h1 => h1
  | s :: r, M, st, h1 => by
    refine agree_S hn r _ _ ?_
    by_cases ht : s.f4 = t
    · rw [if_pos (toList_iff.2 ht), if_neg (fun h => hn ((toList_iff.1 h).symm.trans ht))]
      exact h1
    · rw [if_neg (fun h => ht (toList_iff.1 h))]
      by_cases hs : s.f4 = n
      · rw [if_pos (toList_iff.2 hs)]
        exact agree_B hs l 0 M st h1
      · rw [if_neg (fun h => hs (toList_iff.1 h))]
        exact agree_ne hs l 0 M st h1
theorem agree_C {n t : ByteArray} {l : List S95} (hn : n ≠ t) : ∀ (r : List S105) (M : MS) (st : Bool × S49), Agree n M st → Agree n (cM t l r M) (cF n t l r st)
  | [], _, _, h1 => h1
  | c :: r, M, st, h1 => agree_C hn r _ _ (agree_S hn c.f2 M st h1)
end Go.Proofs.Ytdbomnhdpniigaa.Q
end
section
namespace Go.Proofs.Ytdbomnhdpniigaa.Q
open Go.RowKit Go.Proofs.Ytdbomnhdpniigaa.PA Go.Proofs.YtdbomnhdpniigaaW.PrintWords Go.Proofs.YtdbomnhdpniigaaW.PrintLast Go.Proofs.YtdbomnhdpniigaaW.PrintMore
open Mp (MS mget mhas mput mnames mfind keyL sorted)
theorem rdB {l : List S95} {i : Nat} (h : i < l.length) : rd_T95 l (i : Int) = l[i] := by
  unfold rd_T95
  simp [h]
theorem impl_cl (b : S95) (c : S105) (s : S101) : Ev (fun k => impl_ProbeClose.f k b.f0 b.f1 b.f2 b.f3 b.f4 b.f5 c.f0 c.f1 s.f2 s.f3 s.f0 s.f1) (cl b c s) := impl_close ..
theorem spec_cl (b : S95) (c : S105) (s : S101) : Ev (fun k => spec_ProbeClose.f k b.f0 b.f1 b.f2 b.f3 b.f4 b.f5 c.f0 c.f1 s.f2 s.f3 s.f0 s.f1) (cl b c s) := spec_close ..
theorem ahead_is (x y u v : ByteArray) (t i a p q r : Int) : impl_ProbeClash_ahead.f x y t i a u v p q r = some (ahd t i a ⟨u, v, p, q, r⟩) := by
  unfold impl_ProbeClash_ahead.f ahd
  split
  · split <;> rfl
  · rfl
theorem sooner_is (x y u v : ByteArray) (t i a p q r : Int) : spec_l5Sooner.f x y t i a u v p q r = some (ahd t i a ⟨u, v, p, q, r⟩) := by
  unfold spec_l5Sooner.f ahd
  split
  · split <;> rfl
  · rfl
/-! ### The program -/
theorem ask_l2 (C : List S105) (i : Nat) (S : List S101) {j : Nat} (hj : j < S.length) (hS : S.length ≤ 1048576) (t : ByteArray) (l : List S95) (hl : l.length ≤ 1048576) (c : S105) (s : S101) : ∀ n : Nat, n ≤ l.length → ∀ (M : MS) (R : List S49),
    Ev (fun k => impl_ProbeAsk.l1 k C (C.length : Int) (i : Int) S (S.length : Int) ((j + 1 : Nat) : Int) t l (bM t c s (l.drop n) n M) c.f0 c.f1 c.f2) R →
    Ev (fun k => impl_ProbeAsk.l2 k C (C.length : Int) (i : Int) S (S.length : Int) (j : Int) l (l.length : Int) (n : Int) t l M c.f0 c.f1 c.f2 s.f0 s.f1 s.f2 s.f3 s.f4 s.f5 c.f0 c.f1 s.f2 s.f3 s.f0 s.f1) R :=
  drop_ind l (P := fun n r => ∀ (M : MS) (R : List S49), Ev (fun k => impl_ProbeAsk.l1 k C (C.length : Int) (i : Int) S (S.length : Int) ((j + 1 : Nat) : Int) t l (bM t c s r n M) c.f0 c.f1 c.f2) R → Ev (fun k => impl_ProbeAsk.l2 k C (C.length : Int) (i : Int) S (S.length : Int) (j : Int) l (l.length : Int) (n : Int) t l M c.f0 c.f1 c.f2 s.f0 s.f1 s.f2 s.f3 s.f4 s.f5 c.f0 c.f1 s.f2 s.f3 s.f0 s.f1) R)
    (fun M R h => Ev.step (fun k => impl_ProbeAsk.l2.eq_2 ..) (Ev.neg (by omega) (Ev.congr (fun k => by rw [w64 hj (by omega)]; rfl) h)))
    (fun n hn ih M R h => by
      refine Ev.step (fun k => impl_ProbeAsk.l2.eq_2 ..) (Ev.pos (by omega) (Ev.pos (by omega) (Ev.pos (by omega) ?_)))
      rw [rdB hn, w64 hn (by omega)]
      refine Ev.bind (impl_cl l[n] c s) ?_
      simp only [ahead_is, Option.bind_some]
      refine Ev.congr (fun k => ?_) (ih (sB t c s M n l[n]) R h)
      unfold sB
      by_cases h1 : (cl l[n] c s).2 = true
      · rw [if_pos h1, if_pos h1]
        by_cases h2 : mhas M s.f4 = true
        · rw [if_pos h2, if_pos h2]
          by_cases h3 : ahd (cl l[n] c s).1 n s.f5 (mget M s.f4) = true
          · rw [if_pos h3, if_pos h3]
          · rw [if_neg h3, if_neg h3]
        · rw [if_neg h2, if_neg h2]
      · rw [if_neg h1, if_neg h1])
theorem ask_l1 (C : List S105) (hC : C.length ≤ 1048576) {i : Nat} (hi : i < C.length) (hS : C[i].f2.length ≤ 1048576) (t : ByteArray) (l : List S95) (hl : l.length ≤ 1048576) : ∀ j : Nat, j ≤ C[i].f2.length → ∀ (M : MS) (R : List S49),
    Ev (fun k => impl_ProbeAsk.l0 k C (C.length : Int) ((i + 1 : Nat) : Int) t l (sM t l C[i] (C[i].f2.drop j) M)) R →
    Ev (fun k => impl_ProbeAsk.l1 k C (C.length : Int) (i : Int) C[i].f2 (C[i].f2.length : Int) (j : Int) t l M C[i].f0 C[i].f1 C[i].f2) R :=
  drop_ind C[i].f2 (P := fun j r => ∀ (M : MS) (R : List S49), Ev (fun k => impl_ProbeAsk.l0 k C (C.length : Int) ((i + 1 : Nat) : Int) t l (sM t l C[i] r M)) R → Ev (fun k => impl_ProbeAsk.l1 k C (C.length : Int) (i : Int) C[i].f2 (C[i].f2.length : Int) (j : Int) t l M C[i].f0 C[i].f1 C[i].f2) R)
    (fun M R h => by
      refine Ev.step (fun k => impl_ProbeAsk.l1.eq_2 ..) (Ev.neg (Int.lt_irrefl _) ?_)
      rw [w64 hi (by omega)]
      exact h)
    (fun j hj ih M R h => by
      refine Ev.step (fun k => impl_ProbeAsk.l1.eq_2 ..) (Ev.pos (by omega) (Ev.pos (by omega) (Ev.pos (by omega) ?_)))
      rw [rd101 hj]
      by_cases ht : (C[i].f2[j]).f4.toList = t.toList
      · refine Ev.pos ht (Ev.congr (fun k => by rw [w64 hj (by omega)]) (ih M R ?_))
        rw [sM, if_pos ht] at h
        exact h
      · refine Ev.neg ht (ask_l2 C i C[i].f2 hj hS t l hl C[i] C[i].f2[j] 0 (by omega) M R (ih _ R ?_))
        rw [sM, if_neg ht] at h
        exact h)
theorem ask_l0 (C : List S105) (hC : C.length ≤ 1048576) (hS : ∀ c ∈ C, c.f2.length ≤ 1048576) (t : ByteArray) (l : List S95) (hl : l.length ≤ 1048576) : ∀ i : Nat, i ≤ C.length → ∀ (M : MS) (R : List S49),
    Ev (fun k => (mnames (cM t l (C.drop i) M)).bind fun q => impl_ProbeAsk.l3 k [] q (q.length : Int) 0 (cM t l (C.drop i) M)) R →
    Ev (fun k => impl_ProbeAsk.l0 k C (C.length : Int) (i : Int) t l M) R :=
  drop_ind C (P := fun i r => ∀ (M : MS) (R : List S49), Ev (fun k => (mnames (cM t l r M)).bind fun q => impl_ProbeAsk.l3 k [] q (q.length : Int) 0 (cM t l r M)) R → Ev (fun k => impl_ProbeAsk.l0 k C (C.length : Int) (i : Int) t l M) R)
    (fun M R h => Ev.step (fun k => impl_ProbeAsk.l0.eq_2 ..) (Ev.neg (by omega) h))
    (fun i hi ih M R h => by
      refine Ev.step (fun k => impl_ProbeAsk.l0.eq_2 ..) (Ev.pos (by omega) (Ev.pos (by omega) (Ev.pos (by omega) ?_)))
      rw [rd105 hi]
      exact ask_l1 C hC hi (hS _ (List.getElem_mem hi)) t l hl 0 (by omega) M R (ih _ R h))
theorem rdN {l : List ByteArray} {i : Nat} (h : i < l.length) : rdOf ByteArray.empty l (i : Int) = l[i] := by
  unfold rdOf
  simp [h]
theorem ask_l3 (N : List ByteArray) (hN : N.length ≤ 1000000000) (M : MS) : ∀ i : Nat, i ≤ N.length → ∀ acc : List S49, acc.length ≤ i → Ev (fun k => impl_ProbeAsk.l3 k acc N (N.length : Int) (i : Int) M) (acc ++ (N.drop i).map (mget M)) :=
  drop_ind N (P := fun i r => ∀ acc : List S49, acc.length ≤ i → Ev (fun k => impl_ProbeAsk.l3 k acc N (N.length : Int) (i : Int) M) (acc ++ r.map (mget M)))
    (fun acc h => Ev.step (fun k => impl_ProbeAsk.l3.eq_2 ..) (Ev.neg (by omega) (Ev.is (by simp))))
    (fun i hi ih acc h => by
      refine Ev.step (fun k => impl_ProbeAsk.l3.eq_2 ..) (Ev.pos (by omega) (Ev.pos (by omega) (Ev.pos (by omega) (Ev.pos (by omega) ?_))))
      rw [rdN hi, w64 hi (by omega)]
      exact Ev.eq (ih (acc ++ [mget M N[i]]) (by simp; omega)) (by rw [List.append_assoc]; rfl))
theorem impl_ask (C : List S105) (hC : C.length ≤ 1048576) (hS : ∀ c ∈ C, c.f2.length ≤ 1048576) (t : ByteArray) (l : List S95) (hl : l.length ≤ 1048576) {N : List ByteArray} (hN : mnames (cM t l C []) = some N) (hN' : N.length ≤ 1000000000) :
    Ev (fun k => impl_ProbeAsk.f k C t l) (if tubeOk t l = true then N.map (mget (cM t l C [])) else []) := by
  unfold impl_ProbeAsk.f
  refine Ev.bind (impl_tube t l) ?_
  by_cases h : tubeOk t l = true
  · rw [if_pos h]
    refine Ev.pos h (ask_l0 C hC hS t l hl 0 (by omega) [] _ ?_)
    simp only [List.drop_zero, hN, Option.bind_some]
    exact Ev.eq (ask_l3 N hN' _ 0 (by omega) [] (by simp)) (by simp)
  · rw [if_neg h]
    exact Ev.neg h (Ev.now _)
end Go.Proofs.Ytdbomnhdpniigaa.Q
end
section
namespace Go.Proofs.Ytdbomnhdpniigaa.Q
open Go.RowKit Go.Proofs.Ytdbomnhdpniigaa.PA Go.Proofs.YtdbomnhdpniigaaW.PrintWords Go.Proofs.YtdbomnhdpniigaaW.PrintLast Go.Proofs.YtdbomnhdpniigaaW.PrintMore
open Mp (MS mget mhas mput mnames mfind keyL sorted)
/-! ### Names -/
def nS : List S101 → List ByteArray → List ByteArray
  | [], N => N
  | s :: r, N => nS r (insN s.f4 N)
def nC : List S105 → List ByteArray → List ByteArray
  | [], N => N
  | c :: r, N => nC r (nS c.f2 N)
theorem names_l2 (C : List S105) (i j : Nat) (s : ByteArray) {S : List S101} (hj : j < S.length) (hS : S.length ≤ 1048576) : ∀ (r pre : List ByteArray) (R : List ByteArray), (pre ++ r).length ≤ 1000000000 →
    Ev (fun k => spec_l5Names.l1 k (pre ++ insN s r) (i : Int) ((j + 1 : Nat) : Int) C) R → Ev (fun k => spec_l5Names.l2 k (pre ++ r) (i : Int) (j : Int) s (pre.length : Int) C) R
  | [], pre, R, hl, h => by
    simp only [List.append_nil] at hl ⊢
    refine Ev.step (fun k => spec_l5Names.l2.eq_2 ..) (Ev.neg (by omega) (Ev.pos rfl ?_))
    simp only [Option.bind_some]
    refine Ev.pos (by omega) (Ev.pos (by omega) ?_)
    rw [show ((pre.length : Int)).toNat = pre.length from rfl, List.take_length, List.drop_length, List.nil_append, List.append_nil]
    refine Ev.pos (by simp; omega) (Ev.pos (by simp; omega) (Ev.pos (by simp; omega) ?_))
    rw [w64 hj (by omega)]
    exact h
  | y :: r, pre, R, hl, h => by
    have hr : rdOf ByteArray.empty (pre ++ y :: r) (pre.length : Int) = y := by
      unfold rdOf
      simp [List.getD]
    have hl' : pre.length + (r.length + 1) ≤ 1000000000 := by simpa using hl
    refine Ev.step (fun k => spec_l5Names.l2.eq_2 ..) (Ev.pos (by simp; omega) (Ev.pos (by omega) ?_))
    rw [hr]
    unfold insN at h
    by_cases h1 : Op.bytesLess y.toList s.toList = true
    · rw [if_pos h1] at h
      refine Ev.pos h1 ?_
      rw [w64 (n := pre.length + 1) (by omega) (by omega)]
      have := names_l2 C i j s hj hS r (pre ++ [y]) R (by simp; omega) (by rw [List.append_assoc]; exact h)
      simp only [List.length_append, List.length_singleton, List.append_assoc, List.singleton_append] at this
      exact this
    · rw [if_neg h1] at h
      refine Ev.neg h1 (Ev.neg (by simp; omega) ?_)
      by_cases h2 : y.toList = s.toList
      · rw [if_pos h2] at h
        refine Ev.pos h2 ?_
        rw [w64 hj (by omega)]
        exact h
      · rw [if_neg h2] at h
        refine Ev.neg h2 ?_
        simp only [Option.bind_some]
        refine Ev.pos (by simp; omega) ?_
        rw [show ((pre.length : Int)).toNat = pre.length from rfl, List.take_left, List.drop_left, List.nil_append]
        refine Ev.pos (by simp; omega) (Ev.pos (by simp; omega) (Ev.pos (by simp; omega) ?_))
        rw [w64 hj (by omega), List.append_assoc]
        exact h
theorem len_nS : ∀ (r : List S101) (N : List ByteArray), (nS r N).length ≤ N.length + r.length
  | [], N => by simp [nS]
  | s :: r, N => by
    have := len_nS r (insN s.f4 N)
    have := len_insN (s := s.f4) (l := N)
    simp only [nS, List.length_cons]
    omega
theorem names_l1 (C : List S105) (hC : C.length ≤ 1048576) {i : Nat} (hi : i < C.length) (hS : C[i].f2.length ≤ 1048576) : ∀ j : Nat, j ≤ C[i].f2.length → ∀ (N R : List ByteArray), N.length + (C[i].f2.length - j) ≤ 1000000000 →
    Ev (fun k => spec_l5Names.l0 k (nS (C[i].f2.drop j) N) ((i + 1 : Nat) : Int) C) R → Ev (fun k => spec_l5Names.l1 k N (i : Int) (j : Int) C) R :=
  drop_ind C[i].f2 (P := fun j r => ∀ (N R : List ByteArray), N.length + (C[i].f2.length - j) ≤ 1000000000 → Ev (fun k => spec_l5Names.l0 k (nS r N) ((i + 1 : Nat) : Int) C) R → Ev (fun k => spec_l5Names.l1 k N (i : Int) (j : Int) C) R)
    (fun N R _ h => by
      refine Ev.step (fun k => spec_l5Names.l1.eq_2 ..) (Ev.pos (by omega) (Ev.pos (by omega) ?_))
      rw [rd105 hi]
      refine Ev.neg (Int.lt_irrefl _) ?_
      rw [w64 hi (by omega)]
      exact h)
    (fun j hj ih N R hN h => by
      have hj' : (j : Int) < (C[i].f2.length : Int) := by omega
      refine Ev.step (fun k => spec_l5Names.l1.eq_2 ..) (Ev.pos (by omega) (Ev.pos (by omega) ?_))
      rw [rd105 hi]
      refine Ev.pos hj' (Ev.pos (by omega) ?_)
      rw [rd101 hj]
      have hlen := len_insN (s := (C[i].f2[j]).f4) (l := N)
      exact names_l2 C i j (C[i].f2[j]).f4 hj hS N [] R (by simp; omega) (ih _ R (by simp only [List.nil_append]; omega) h))
def cntS : List S105 → Nat
  | [] => 0
  | c :: r => c.f2.length + cntS r
theorem names_l0 (C : List S105) (hC : C.length ≤ 1048576) (hS : ∀ c ∈ C, c.f2.length ≤ 1048576) : ∀ i : Nat, i ≤ C.length → ∀ N : List ByteArray, N.length + cntS (C.drop i) ≤ 1000000000 → Ev (fun k => spec_l5Names.l0 k N (i : Int) C) (nC (C.drop i) N) :=
  drop_ind C (P := fun i r => ∀ N : List ByteArray, N.length + cntS r ≤ 1000000000 → Ev (fun k => spec_l5Names.l0 k N (i : Int) C) (nC r N))
    (fun N _ => Ev.step (fun k => spec_l5Names.l0.eq_2 ..) (Ev.neg (by omega) (Ev.is rfl)))
    (fun i hi ih N hN => by
      simp only [cntS] at hN
      have := len_nS C[i].f2 N
      exact Ev.step (fun k => spec_l5Names.l0.eq_2 ..) (Ev.pos (by omega) (names_l1 C hC hi (hS _ (List.getElem_mem hi)) 0 (by omega) N _ (by omega) (ih _ (by simp only [List.drop_zero]; omega)))))
theorem names_ev (C : List S105) (hC : C.length ≤ 1048576) (hS : ∀ c ∈ C, c.f2.length ≤ 1048576) (hN : cntS C ≤ 1000000000) : Ev (fun k => spec_l5Names.f k C) (nC C []) := by
  unfold spec_l5Names.f
  exact names_l0 C hC hS 0 (by omega) [] (by simpa using hN)
/-! ### One name's soonest -/
theorem first_l2 (C : List S105) {i j : Nat} (hi : i < C.length) {S : List S101} (hj : j < S.length) (hS : S.length ≤ 1048576) (t : ByteArray) (l : List S95) (hl : l.length ≤ 1048576) (s : S101) : ∀ n : Nat, n ≤ l.length → ∀ (st : Bool × S49) (R : ByteArray × ByteArray × Int × Int × Int × Bool),
    Ev (fun k => spec_l5First.l1 k s.f4 (bF t C[i] s (l.drop n) n st).1 (i : Int) ((j + 1 : Nat) : Int) C t l (bF t C[i] s (l.drop n) n st).2.f0 (bF t C[i] s (l.drop n) n st).2.f1 (bF t C[i] s (l.drop n) n st).2.f2 (bF t C[i] s (l.drop n) n st).2.f3 (bF t C[i] s (l.drop n) n st).2.f4) R →
    Ev (fun k => spec_l5First.l2 k s.f4 st.1 (i : Int) (j : Int) (n : Int) C t l st.2.f0 st.2.f1 st.2.f2 st.2.f3 st.2.f4 s.f0 s.f1 s.f2 s.f3 s.f4 s.f5) R :=
  drop_ind l (P := fun n r => ∀ (st : Bool × S49) (R : ByteArray × ByteArray × Int × Int × Int × Bool), Ev (fun k => spec_l5First.l1 k s.f4 (bF t C[i] s r n st).1 (i : Int) ((j + 1 : Nat) : Int) C t l (bF t C[i] s r n st).2.f0 (bF t C[i] s r n st).2.f1 (bF t C[i] s r n st).2.f2 (bF t C[i] s r n st).2.f3 (bF t C[i] s r n st).2.f4) R → Ev (fun k => spec_l5First.l2 k s.f4 st.1 (i : Int) (j : Int) (n : Int) C t l st.2.f0 st.2.f1 st.2.f2 st.2.f3 st.2.f4 s.f0 s.f1 s.f2 s.f3 s.f4 s.f5) R)
    (fun st R h => by
      refine Ev.step (fun k => spec_l5First.l2.eq_2 ..) (Ev.neg (Int.lt_irrefl _) ?_)
      refine Ev.step (fun k => spec_l5First.j3.eq_2 ..) (Ev.neg (by simp) ?_)
      rw [w64 hj (by omega)]
      exact h)
    (fun n hn ih st R h => by
      refine Ev.step (fun k => spec_l5First.l2.eq_2 ..) (Ev.pos (by omega) ?_)
      refine Ev.step (fun k => spec_l5First.j3.eq_2 ..) (Ev.pos (by simp) (Ev.pos (by omega) (Ev.pos (by omega) (Ev.pos (by omega) (Ev.pos (by omega) ?_)))))
      rw [rdB hn, rd105 hi, w64 hn (by omega)]
      simp only [spec_l5Box.f, Option.bind_some]
      refine Ev.bind (spec_cl l[n] C[i] s) ?_
      simp only [sooner_is, Option.bind_some]
      refine Ev.congr (fun k => ?_) (ih (sF t C[i] s st n l[n]) R h)
      unfold sF
      by_cases h1 : (cl l[n] C[i] s).2 = true
      · rw [if_pos h1, if_pos h1]
        by_cases h2 : st.1 = true
        · rw [if_pos h2, if_pos h2]
          by_cases h3 : ahd (cl l[n] C[i] s).1 n s.f5 st.2 = true
          · rw [if_pos h3, if_pos h3]
          · rw [if_neg h3, if_neg h3]
        · rw [if_neg h2, if_neg h2]
      · rw [if_neg h1, if_neg h1])
theorem first_l1 (C : List S105) (hC : C.length ≤ 1048576) {i : Nat} (hi : i < C.length) (hS : C[i].f2.length ≤ 1048576) (n t : ByteArray) (l : List S95) (hl : l.length ≤ 1048576) : ∀ j : Nat, j ≤ C[i].f2.length → ∀ (st : Bool × S49) (R : ByteArray × ByteArray × Int × Int × Int × Bool),
    Ev (fun k => spec_l5First.l0 k n (ssF n t l C[i] (C[i].f2.drop j) st).1 ((i + 1 : Nat) : Int) C t l (ssF n t l C[i] (C[i].f2.drop j) st).2.f0 (ssF n t l C[i] (C[i].f2.drop j) st).2.f1 (ssF n t l C[i] (C[i].f2.drop j) st).2.f2 (ssF n t l C[i] (C[i].f2.drop j) st).2.f3 (ssF n t l C[i] (C[i].f2.drop j) st).2.f4) R →
    Ev (fun k => spec_l5First.l1 k n st.1 (i : Int) (j : Int) C t l st.2.f0 st.2.f1 st.2.f2 st.2.f3 st.2.f4) R :=
  drop_ind C[i].f2 (P := fun j r => ∀ (st : Bool × S49) (R : ByteArray × ByteArray × Int × Int × Int × Bool), Ev (fun k => spec_l5First.l0 k n (ssF n t l C[i] r st).1 ((i + 1 : Nat) : Int) C t l (ssF n t l C[i] r st).2.f0 (ssF n t l C[i] r st).2.f1 (ssF n t l C[i] r st).2.f2 (ssF n t l C[i] r st).2.f3 (ssF n t l C[i] r st).2.f4) R → Ev (fun k => spec_l5First.l1 k n st.1 (i : Int) (j : Int) C t l st.2.f0 st.2.f1 st.2.f2 st.2.f3 st.2.f4) R)
    (fun st R h => by
      refine Ev.step (fun k => spec_l5First.l1.eq_2 ..) (Ev.pos (by omega) (Ev.pos (by omega) ?_))
      rw [rd105 hi]
      refine Ev.neg (Int.lt_irrefl _) ?_
      rw [w64 hi (by omega)]
      exact h)
    (fun j hj ih st R h => by
      have hj' : (j : Int) < (C[i].f2.length : Int) := by omega
      refine Ev.step (fun k => spec_l5First.l1.eq_2 ..) (Ev.pos (by omega) (Ev.pos (by omega) ?_))
      rw [rd105 hi]
      refine Ev.pos hj' (Ev.pos (by omega) ?_)
      rw [rd101 hj]
      by_cases hs : (C[i].f2[j]).f4.toList = n.toList
      · obtain rfl := toList_iff.1 hs
        rw [ssF, if_pos rfl] at h
        exact first_l2 C hi hj hS t l hl C[i].f2[j] 0 (by omega) st R (ih _ R h)
      · rw [ssF, if_neg hs] at h
        have hs' : ((C[i].f2[j]).f4.toList == n.toList) = false := by simpa using hs
        have h3 : Ev (fun k => spec_l5First.j3 k n st.1 (i : Int) (j : Int) 0 false C t l st.2.f0 st.2.f1 st.2.f2 st.2.f3 st.2.f4 (C[i].f2[j]).f0 (C[i].f2[j]).f1 (C[i].f2[j]).f2 (C[i].f2[j]).f3 (C[i].f2[j]).f4 (C[i].f2[j]).f5) R := by
          refine Ev.step (fun k => spec_l5First.j3.eq_2 ..) (Ev.neg (by simp) ?_)
          rw [w64 hj (by omega)]
          exact ih _ R h
        refine Ev.step (fun k => spec_l5First.l2.eq_2 ..) ?_
        rw [hs']
        split
        · exact h3
        · exact h3)
def pk (st : Bool × S49) : ByteArray × ByteArray × Int × Int × Int × Bool := (st.2.f0, st.2.f1, st.2.f2, st.2.f3, st.2.f4, st.1)
theorem first_l0 (C : List S105) (hC : C.length ≤ 1048576) (hS : ∀ c ∈ C, c.f2.length ≤ 1048576) (n t : ByteArray) (l : List S95) (hl : l.length ≤ 1048576) : ∀ i : Nat, i ≤ C.length → ∀ (st : Bool × S49),
    Ev (fun k => spec_l5First.l0 k n st.1 (i : Int) C t l st.2.f0 st.2.f1 st.2.f2 st.2.f3 st.2.f4) (pk (cF n t l (C.drop i) st)) :=
  drop_ind C (P := fun i r => ∀ (st : Bool × S49), Ev (fun k => spec_l5First.l0 k n st.1 (i : Int) C t l st.2.f0 st.2.f1 st.2.f2 st.2.f3 st.2.f4) (pk (cF n t l r st)))
    (fun st => Ev.step (fun k => spec_l5First.l0.eq_2 ..) (Ev.neg (by omega) (Ev.is rfl)))
    (fun i hi ih st => Ev.step (fun k => spec_l5First.l0.eq_2 ..) (Ev.pos (by omega) (first_l1 C hC hi (hS _ (List.getElem_mem hi)) n t l hl 0 (by omega) st _ (ih _))))
def st0 : Bool × S49 := (false, ⟨⟨#[]⟩, ⟨#[]⟩, 0, 0, 0⟩)
theorem first_ev (C : List S105) (hC : C.length ≤ 1048576) (hS : ∀ c ∈ C, c.f2.length ≤ 1048576) (n t : ByteArray) (l : List S95) (hl : l.length ≤ 1048576) : Ev (fun k => spec_l5First.f k C t l n) (pk (cF n t l C st0)) := by
  unfold spec_l5First.f
  exact first_l0 C hC hS n t l hl 0 (by omega) st0
/-! ### The reference -/
def askS (C : List S105) (t : ByteArray) (l : List S95) (N : List ByteArray) : List S49 := (N.filter fun n => (cF n t l C st0).1 && !decide (n.toList = t.toList)).map fun n => (cF n t l C st0).2
theorem askS_cons (C : List S105) (t : ByteArray) (l : List S95) (n : ByteArray) (r : List ByteArray) : askS C t l (n :: r) = (if (cF n t l C st0).1 = true then (if n.toList = t.toList then [] else [(cF n t l C st0).2]) else []) ++ askS C t l r := by
  unfold askS
  by_cases h1 : (cF n t l C st0).1 = true
  · by_cases h2 : n.toList = t.toList <;> simp [h1, h2]
  · simp [h1]
theorem ask_s0 (C : List S105) (hC : C.length ≤ 1048576) (hS : ∀ c ∈ C, c.f2.length ≤ 1048576) (t : ByteArray) (l : List S95) (hl : l.length ≤ 1048576) (N : List ByteArray) (hN : N.length ≤ 1000000000) : ∀ i : Nat, i ≤ N.length → ∀ acc : List S49, acc.length ≤ i → Ev (fun k => spec_ProbeAsk.l0 k acc N (i : Int) C t l) (acc ++ askS C t l (N.drop i)) :=
  drop_ind N (P := fun i r => ∀ acc : List S49, acc.length ≤ i → Ev (fun k => spec_ProbeAsk.l0 k acc N (i : Int) C t l) (acc ++ askS C t l r))
    (fun acc h => Ev.step (fun k => spec_ProbeAsk.l0.eq_2 ..) (Ev.neg (by omega) (Ev.is (by simp [askS]))))
    (fun i hi ih acc h => by
      refine Ev.step (fun k => spec_ProbeAsk.l0.eq_2 ..) (Ev.pos (by omega) (Ev.pos (by omega) ?_))
      rw [rdN hi, w64 hi (by omega)]
      refine Ev.bind (first_ev C hC hS N[i] t l hl) ?_
      by_cases h1 : (cF N[i] t l C st0).1 = true
      · refine Ev.pos h1 ?_
        by_cases h2 : N[i].toList = t.toList
        · refine Ev.pos h2 (Ev.eq (ih acc (by omega)) ?_)
          rw [askS_cons, if_pos h1, if_pos h2, List.nil_append]
        · refine Ev.neg h2 (Ev.pos (by omega) (Ev.eq (ih _ (by simp; omega)) ?_))
          rw [askS_cons, if_pos h1, if_neg h2, List.append_assoc]
          rfl
      · refine Ev.neg h1 (Ev.eq (ih acc (by omega)) ?_)
        rw [askS_cons, if_neg h1, List.nil_append])
theorem spec_ask (C : List S105) (hC : C.length ≤ 1048576) (hS : ∀ c ∈ C, c.f2.length ≤ 1048576) (hN : cntS C ≤ 1000000000) (t : ByteArray) (l : List S95) (hl : l.length ≤ 1048576) (hn : (nC C []).length ≤ 1000000000) :
    Ev (fun k => spec_ProbeAsk.f k C t l) (if tubeOk t l = true then askS C t l (nC C []) else []) := by
  unfold spec_ProbeAsk.f
  simp only [Option.bind_some]
  refine Ev.bind (spec_tube t l) ?_
  by_cases h : tubeOk t l = true
  · rw [if_pos h]
    refine Ev.pos h (Ev.bind (names_ev C hC hS hN) ?_)
    exact ask_s0 C hC hS t l hl _ hn 0 (by omega) [] (by simp)
  · rw [if_neg h]
    exact Ev.neg h (Ev.now _)
theorem len_nC : ∀ (C : List S105) (N : List ByteArray), (nC C N).length ≤ N.length + cntS C
  | [], N => by simp [nC, cntS]
  | c :: r, N => by
    have := len_nC r (nS c.f2 N)
    have := len_nS c.f2 N
    simp only [nC, cntS]
    omega
theorem asc_nS : ∀ (r : List S101) {N : List ByteArray}, Asc2 N → Asc2 (nS r N)
  | [], _, h => h
  | s :: r, _, h => asc_nS r (asc_insN h)
theorem asc_nC : ∀ (C : List S105) {N : List ByteArray}, Asc2 N → Asc2 (nC C N)
  | [], _, h => h
  | c :: r, _, h => asc_nC r (asc_nS c.f2 h)
theorem mem_nS {n : ByteArray} : ∀ (r : List S101) {N : List ByteArray}, n ∈ N ∨ (∃ s ∈ r, s.f4 = n) → n ∈ nS r N
  | [], _, h => by simpa [nS] using h
  | s :: r, _, h => by
    refine mem_nS r ?_
    rcases h with h | ⟨s', hs, rfl⟩
    · exact .inl (mem_insN.2 (.inr h))
    · rcases List.mem_cons.1 hs with rfl | hs
      · exact .inl (mem_insN.2 (.inl rfl))
      · exact .inr ⟨_, hs, rfl⟩
theorem mem_nC {n : ByteArray} : ∀ (C : List S105) {N : List ByteArray}, n ∈ N ∨ (∃ c ∈ C, ∃ s ∈ c.f2, s.f4 = n) → n ∈ nC C N
  | [], _, h => by simpa [nC] using h
  | c :: r, _, h => by
    refine mem_nC r ?_
    rcases h with h | ⟨c', hc, hs⟩
    · exact .inl (mem_nS _ (.inl h))
    · rcases List.mem_cons.1 hc with rfl | hc
      · exact .inl (mem_nS _ (.inr hs))
      · exact .inr ⟨_, hc, hs⟩
/-! ### The map's keys -/
def KeysIn (M : MS) (P : ByteArray → Prop) : Prop := (M.map Prod.fst).Nodup ∧ ∀ n ∈ M.map Prod.fst, P n
theorem keys_in_put {M : MS} {P : ByteArray → Prop} {s : ByteArray} {c : S49} (h : KeysIn M P) (hs : P s) : KeysIn (mput M s c) P := by
  refine ⟨nodup_put h.1, fun n hn => ?_⟩
  rw [keys_put] at hn
  split at hn
  · exact h.2 n hn
  · rcases List.mem_append.1 hn with hn | hn
    · exact h.2 n hn
    · rw [List.mem_singleton.1 hn]; exact hs
theorem keys_B {t : ByteArray} {c : S105} {s : S101} {P : ByteArray → Prop} (hs : P s.f4) : ∀ (r : List S95) (j : Nat) (M : MS), KeysIn M P → KeysIn (bM t c s r j M) P
  | [], _, _, h => h
  | b :: r, j, M, h => by
    refine keys_B hs r (j + 1) _ ?_
    unfold sB
    split
    · split
      · split
        · exact keys_in_put h hs
        · exact h
      · exact keys_in_put h hs
    · exact h
theorem keys_S {t : ByteArray} {l : List S95} {c : S105} {P : ByteArray → Prop} : ∀ (r : List S101) (M : MS), (∀ s ∈ r, s.f4 ≠ t → P s.f4) → KeysIn M P → KeysIn (sM t l c r M) P
  | [], _, _, h => h
  | s :: r, M, hP, h => by
    refine keys_S r _ (fun s' hs => hP s' (List.mem_cons_of_mem _ hs)) ?_
    split
    · exact h
    · rename_i hne
      exact keys_B (hP s List.mem_cons_self (fun e => hne (by rw [e]))) l 0 M h
theorem keys_C {t : ByteArray} {l : List S95} {P : ByteArray → Prop} : ∀ (r : List S105) (M : MS), (∀ c ∈ r, ∀ s ∈ c.f2, s.f4 ≠ t → P s.f4) → KeysIn M P → KeysIn (cM t l r M) P
  | [], _, _, h => h
  | c :: r, M, hP, h => keys_C r _ (fun c' hc => hP c' (List.mem_cons_of_mem _ hc)) (keys_S c.f2 M (hP c List.mem_cons_self) h)
theorem ba_eta (n : ByteArray) : (⟨n.data.toList.toArray⟩ : ByteArray) = n := by cases n; rfl
theorem mem_sorted' {M : MS} {n : ByteArray} : n ∈ sorted (keyL M) ↔ n ∈ M.map Prod.fst := by
  unfold sorted keyL
  simp only [List.mem_map, List.mem_mergeSort]
  constructor
  · rintro ⟨_, ⟨p, hp, rfl⟩, rfl⟩
    exact ⟨p, hp, (ba_eta _).symm⟩
  · rintro ⟨p, hp, rfl⟩
    exact ⟨_, ⟨p, hp, rfl⟩, ba_eta _⟩
theorem asc_sorted {M : MS} (h : (M.map Prod.fst).Nodup) : Asc2 (sorted (keyL M)) := by
  have tr : ∀ a b c : List UInt8, leB a b = true → leB b c = true → leB a c = true := fun a b c h1 h2 => by simp only [leB, decide_eq_true_eq] at *; exact List.le_trans h1 h2
  have tot : ∀ a b : List UInt8, (leB a b || leB b a) = true := fun a b => by simp only [leB, Bool.or_eq_true, decide_eq_true_eq]; exact List.le_total a b
  have hn : (keyL M).Nodup := by
    unfold keyL
    refine List.pairwise_map.2 ((List.pairwise_map.1 h).imp fun {p q} hne e => hne ?_)
    rw [← ba_eta p.1, ← ba_eta q.1, e]
  have hn2 : ((keyL M).mergeSort leB).Nodup := (List.mergeSort_perm (keyL M) leB).nodup_iff.2 hn
  unfold Asc2 sorted
  refine List.pairwise_map.2 (((List.pairwise_mergeSort tr tot (keyL M)).and hn2).imp fun {a b} hab => ?_)
  obtain ⟨h1, h2⟩ := hab
  have h1' : a ≤ b := by simpa [leB] using h1
  show a < b
  rcases Decidable.em (a < b) with h3 | h3
  · exact h3
  · exact absurd (List.le_antisymm h1' h3) h2
theorem ask_same (C : List S105) (t : ByteArray) (l : List S95) (hN : cntS C ≤ 1000000000) (hz : ∀ c ∈ C, ∀ s ∈ c.f2, s.f4.size ≤ 1000000000) :
    ∃ N, mnames (cM t l C []) = some N ∧ N.length ≤ 1000000000 ∧ N.map (mget (cM t l C [])) = askS C t l (nC C []) := by
  have hk : KeysIn (cM t l C []) (fun n => (∃ c ∈ C, ∃ s ∈ c.f2, s.f4 = n) ∧ n ≠ t) := keys_C C [] (fun c hc s hs hne => ⟨⟨c, hc, s, hs, rfl⟩, hne⟩) ⟨by simp, by simp⟩
  have hag : ∀ n, n ≠ t → Agree n (cM t l C []) (cF n t l C st0) := fun n hn => agree_C hn C [] st0 ⟨rfl, fun h => by cases h⟩
  have hmem : ∀ n, n ∈ (cM t l C []).map Prod.fst ↔ n ∈ (nC C []).filter fun n => (cF n t l C st0).1 && !decide (n.toList = t.toList) := by
    intro n
    rw [List.mem_filter, Bool.and_eq_true, Bool.not_eq_true', decide_eq_false_iff_not, toList_iff]
    constructor
    · intro h
      have hp := hk.2 n h
      exact ⟨mem_nC C (.inr hp.1), by rw [← (hag n hp.2).1]; exact has_iff.2 h, hp.2⟩
    · rintro ⟨_, h1, h2⟩
      exact has_iff.1 (by rw [(hag n h2).1]; exact h1)
  have hasc : Asc2 ((nC C []).filter fun n => (cF n t l C st0).1 && !decide (n.toList = t.toList)) := (asc_nC C (N := []) (by simp [Asc2])).filter _
  have heq : sorted (keyL (cM t l C [])) = (nC C []).filter fun n => (cF n t l C st0).1 && !decide (n.toList = t.toList) := asc_eq (asc_sorted hk.1) hasc (fun n => by rw [mem_sorted', hmem n])
  have hlen : (sorted (keyL (cM t l C []))).length ≤ 1000000000 := by
    rw [heq]
    have := List.length_filter_le (fun n => (cF n t l C st0).1 && !decide (n.toList = t.toList)) (nC C [])
    have := len_nC C []
    simp only [List.length_nil, Nat.zero_add] at this
    omega
  have hlM : (cM t l C []).length ≤ 1000000000 := by rw [Mp.sorted_len] at hlen; simpa [keyL] using hlen
  refine ⟨sorted (keyL (cM t l C [])), ?_, hlen, ?_⟩
  · unfold mnames
    have hz' : ∀ p ∈ cM t l C [], p.1.size ≤ 1000000000 := by
      intro p hp
      obtain ⟨⟨c, hc, s, hs, e⟩, _⟩ := hk.2 p.1 (List.mem_map_of_mem hp)
      rw [← e]; exact hz c hc s hs
    rw [if_pos ⟨hz', hk.1, hlM⟩]
  · unfold askS
    rw [heq]
    refine List.map_congr_left fun n hn => ?_
    rw [List.mem_filter, Bool.and_eq_true, Bool.not_eq_true', decide_eq_false_iff_not, toList_iff] at hn
    exact (hag n hn.2.2).2 hn.2.1
end Go.Proofs.Ytdbomnhdpniigaa.Q
end
