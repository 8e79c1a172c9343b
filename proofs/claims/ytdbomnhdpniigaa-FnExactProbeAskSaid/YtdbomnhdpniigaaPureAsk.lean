/- FnExactProbeAsk: program and reference give one answer at every argument, and the answer owns its memory. No condition. -/
import Derived.Test.YtdbomnhdpniigaaQ15
import Derived.Test.YtdbomnhdpniigaaQ4
namespace Go.Proofs.Ytdbomnhdpniigaa.Pure
open Go.RowKit Go.Proofs.Ytdbomnhdpniigaa.PA Go.Proofs.Ytdbomnhdpniigaa.Q Go.Proofs.YtdbomnhdpniigaaW.PrintWords Go.Proofs.YtdbomnhdpniigaaW.PrintLast
def cntZ : List S147 → Nat
  | [] => 0
  | c :: r => c.f2.length + cntZ r
theorem sz_slots_l (l : List S182) (hl : l.length ≤ 9223372036854775807) (hg : ∀ x ∈ l, g_slot x) : ∀ i : Nat, i ≤ l.length → ∀ n : Int, 0 ≤ n → n ≤ 1048576 → ∃ m : Int, Ev (fun k => laws_szProbeSlotS.l0 k l n (i : Int)) m ∧ (m = -1 ∨ (0 ≤ m ∧ m ≤ n ∧ ∀ x ∈ l.drop i, x.f4.size ≤ 1048576)) :=
  drop_ind l (P := fun i r => ∀ n : Int, 0 ≤ n → n ≤ 1048576 → ∃ m : Int, Ev (fun k => laws_szProbeSlotS.l0 k l n (i : Int)) m ∧ (m = -1 ∨ (0 ≤ m ∧ m ≤ n ∧ ∀ x ∈ r, x.f4.size ≤ 1048576)))
    (fun n h0 h1 => ⟨n, Ev.step (fun k => laws_szProbeSlotS.l0.eq_2 ..) (Ev.neg (by omega) (Ev.is rfl)), .inr ⟨h0, Int.le_refl _, by simp⟩⟩)
    (fun i hi ih n h0 h1 => by
      have hx : l[i].f4.size ≤ maxLen := (hg _ (List.getElem_mem hi)).2.2.2.2.1
      unfold maxLen at hx
      have hf : laws_szProbeSlot.f l[i].f0 l[i].f1 l[i].f2 l[i].f3 l[i].f4 l[i].f5 n = if n - (l[i].f4.size : Int) < 0 then some (-1) else some (n - (l[i].f4.size : Int)) := by
        unfold laws_szProbeSlot.f
        rw [wsub h0 h1 (by omega) (by omega)]
      by_cases h : n - (l[i].f4.size : Int) < 0
      · refine ⟨-1, Ev.step (fun k => laws_szProbeSlotS.l0.eq_2 ..) (Ev.pos (by omega) (Ev.pos (by omega) ?_)), .inl rfl⟩
        rw [rd182 hi, hf, if_pos h]
        exact Ev.bind (Ev.now _) (Ev.pos (by omega) (Ev.now _))
      · obtain ⟨m, hm, hr⟩ := ih (n - (l[i].f4.size : Int)) (by omega) (by omega)
        refine ⟨m, Ev.step (fun k => laws_szProbeSlotS.l0.eq_2 ..) (Ev.pos (by omega) (Ev.pos (by omega) ?_)), hr.imp id (fun ⟨a, b, c⟩ => ⟨a, by omega, fun x hx => ?_⟩)⟩
        · rw [rd182 hi, hf, if_neg h, w64 hi hl]
          exact Ev.bind (Ev.now _) (Ev.neg (by omega) hm)
        · rcases List.mem_cons.1 hx with rfl | hx
          · omega
          · exact c x hx)
theorem sz_slots (l : List S182) (hg : g_slots l) {n : Int} (h0 : 0 ≤ n) (h1 : n ≤ 1048576) : ∃ m : Int, Ev (fun k => laws_szProbeSlotS.f k l n) m ∧ (m = -1 ∨ (0 ≤ m ∧ m ≤ n - l.length ∧ ∀ x ∈ l, x.f4.size ≤ 1048576)) := by
  have hl := hg.1
  unfold maxLen at hl
  have hw : wrap64 (n - (l.length : Int)) = n - (l.length : Int) := wsub (by omega) (by omega) (by omega) (by omega)
  by_cases h : n - (l.length : Int) < 0
  · refine ⟨-1, ?_, .inl rfl⟩
    unfold laws_szProbeSlotS.f
    rw [hw]
    exact Ev.pos h (Ev.now _)
  · obtain ⟨m, hm, hr⟩ := sz_slots_l l (by omega) hg.2 0 (by omega) (n - (l.length : Int)) (by omega) (by omega)
    refine ⟨m, ?_, hr.imp id (fun ⟨a, b, c⟩ => ⟨a, b, by simpa using c⟩)⟩
    unfold laws_szProbeSlotS.f
    rw [hw]
    exact Ev.neg h hm
theorem sz_cells_l (l : List S147) (hl : l.length ≤ 9223372036854775807) (hg : ∀ x ∈ l, g_cell x) : ∀ i : Nat, i ≤ l.length → ∀ n : Int, 0 ≤ n → n ≤ 1048576 → ∃ m : Int, Ev (fun k => laws_szProbeCellS.l0 k l n (i : Int)) m ∧ (m = -1 ∨ (0 ≤ m ∧ m ≤ n - cntZ (l.drop i) ∧ ∀ c ∈ l.drop i, ∀ x ∈ c.f2, x.f4.size ≤ 1048576)) :=
  drop_ind l (P := fun i r => ∀ n : Int, 0 ≤ n → n ≤ 1048576 → ∃ m : Int, Ev (fun k => laws_szProbeCellS.l0 k l n (i : Int)) m ∧ (m = -1 ∨ (0 ≤ m ∧ m ≤ n - cntZ r ∧ ∀ c ∈ r, ∀ x ∈ c.f2, x.f4.size ≤ 1048576)))
    (fun n h0 h1 => ⟨n, Ev.step (fun k => laws_szProbeCellS.l0.eq_2 ..) (Ev.neg (by omega) (Ev.is rfl)), .inr ⟨h0, by simp [cntZ], by simp⟩⟩)
    (fun i hi ih n h0 h1 => by
      obtain ⟨m, hm, hr⟩ := sz_slots l[i].f2 (hg _ (List.getElem_mem hi)).2.2 h0 h1
      have hc : Ev (fun k => laws_szProbeCell.f k l[i].f0 l[i].f1 l[i].f2 n) m := by
        unfold laws_szProbeCell.f
        refine Ev.bind hm ?_
        rcases hr with rfl | ⟨a, _⟩
        · exact Ev.pos (by omega) (Ev.now _)
        · exact Ev.neg (by omega) (Ev.now _)
      rcases hr with rfl | ⟨a, b, c⟩
      · refine ⟨-1, Ev.step (fun k => laws_szProbeCellS.l0.eq_2 ..) (Ev.pos (by omega) (Ev.pos (by omega) ?_)), .inl rfl⟩
        rw [rd147 hi]
        exact Ev.bind hc (Ev.pos (by omega) (Ev.now _))
      · obtain ⟨m', hm', hr'⟩ := ih m a (by omega)
        refine ⟨m', Ev.step (fun k => laws_szProbeCellS.l0.eq_2 ..) (Ev.pos (by omega) (Ev.pos (by omega) ?_)), hr'.imp id (fun ⟨a', b', c'⟩ => ⟨a', by simp only [cntZ]; omega, fun x hx => ?_⟩)⟩
        · rw [rd147 hi, w64 hi hl]
          exact Ev.bind hc (Ev.neg (by omega) hm')
        · rcases List.mem_cons.1 hx with rfl | hx
          · exact c
          · exact c' x hx)
theorem cntZ_mem : ∀ {l : List S147} {c : S147}, c ∈ l → c.f2.length ≤ cntZ l
  | d :: r, c, h => by
    rcases List.mem_cons.1 h with rfl | h
    · simp [cntZ]
    · have := cntZ_mem h
      simp only [cntZ]; omega
theorem sz_index (l : List S147) (hg : g_index l) : ∃ m : Int, Ev (fun k => laws_szProbeIndex.f k l 1048576) m ∧ (m = -1 ∨ (0 ≤ m ∧ m ≤ 1048576 ∧ l.length ≤ 1048576 ∧ cntZ l ≤ 1048576 ∧ ∀ c ∈ l, ∀ x ∈ c.f2, x.f4.size ≤ 1048576)) := by
  have hl := hg.1
  unfold maxLen at hl
  have hw : wrap64 (1048576 - (l.length : Int)) = 1048576 - (l.length : Int) := wsub (by omega) (by omega) (by omega) (by omega)
  have key : ∃ m : Int, Ev (fun k => laws_szProbeCellS.f k l 1048576) m ∧ (m = -1 ∨ (0 ≤ m ∧ m ≤ 1048576 ∧ l.length ≤ 1048576 ∧ cntZ l ≤ 1048576 ∧ ∀ c ∈ l, ∀ x ∈ c.f2, x.f4.size ≤ 1048576)) := by
    by_cases h : 1048576 - (l.length : Int) < 0
    · refine ⟨-1, ?_, .inl rfl⟩
      unfold laws_szProbeCellS.f
      rw [hw]
      exact Ev.pos h (Ev.now _)
    · obtain ⟨m, hm, hr⟩ := sz_cells_l l (by omega) hg.2 0 (by omega) (1048576 - (l.length : Int)) (by omega) (by omega)
      refine ⟨m, ?_, hr.imp id (fun ⟨a, b, c⟩ => ⟨a, by omega, by omega, by simp only [List.drop_zero] at b; omega, by simpa using c⟩)⟩
      unfold laws_szProbeCellS.f
      rw [hw]
      exact Ev.neg h hm
  obtain ⟨m, hm, hr⟩ := key
  refine ⟨m, ?_, hr⟩
  unfold laws_szProbeIndex.f
  refine Ev.bind hm ?_
  rcases hr with rfl | ⟨a, _⟩
  · exact Ev.pos (by omega) (Ev.now _)
  · exact Ev.neg (by omega) (Ev.now _)
theorem cntS_map : ∀ l : List S147, cntS (l.map cvC) = cntZ l
  | [] => rfl
  | c :: r => by simp only [List.map_cons, cntS, cntZ, cntS_map r, cvC, List.length_map]
theorem FnExactProbeAsk (L : List S147) (y : ByteArray × List S121) (w : g_index L) (v : g_tube y) : ∃ k, laws_FnExactProbeAsk.f k L y.1 y.2 = some true := by
  refine Ev.rounds (g := fun k => laws_FnExactProbeAsk.f k L y.1 y.2) ?_
  unfold laws_FnExactProbeAsk.f
  obtain ⟨m, hm, h⟩ := sz_index L w
  refine Ev.bind hm ?_
  rcases h with rfl | ⟨h0, h1, hl, hcz, hz⟩
  · exact Ev.pos (by omega) (Ev.now true)
  refine Ev.neg (by omega) ?_
  rcases sz_tube (n := m) h0 (by omega) v.1 v.2.1 with h' | ⟨h', h0'⟩
  · simp only [h', Option.bind_some]
    exact Ev.pos (by omega) (Ev.now true)
  have hl' : y.2.length ≤ 1048576 := by omega
  have hL : ∀ c ∈ L, c.f2.length ≤ 1048576 := fun c hc => Nat.le_trans (cntZ_mem hc) hcz
  have ht := to_index L hl hL
  have hu := to_tube y.1 y.2 hl'
  have hml : (L.map cvC).length ≤ 1048576 := by rw [List.length_map]; exact hl
  have hmS : ∀ c ∈ L.map cvC, c.f2.length ≤ 1048576 := fun c hc => by
    obtain ⟨d, hd, rfl⟩ := List.mem_map.1 hc
    simp only [cvC, List.length_map]
    exact hL d hd
  have hmz : ∀ c ∈ L.map cvC, ∀ s ∈ c.f2, s.f4.size ≤ 1000000000 := fun c hc s hs => by
    obtain ⟨d, hd, rfl⟩ := List.mem_map.1 hc
    obtain ⟨x, hx, rfl⟩ := List.mem_map.1 hs
    have := hz d hd x hx
    simp only [cvS]
    omega
  have hcs : cntS (L.map cvC) ≤ 1048576 := by rw [cntS_map]; exact hcz
  obtain ⟨N, hN, hN', hNe⟩ := ask_same (L.map cvC) y.1 (y.2.map cv) (by omega) hmz
  have hlb : (y.2.map cv).length ≤ 1048576 := by rw [List.length_map]; exact hl'
  have hln := len_nC (L.map cvC) []
  have hi := impl_ask (L.map cvC) hml hmS y.1 (y.2.map cv) hlb hN hN'
  have hs := spec_ask (L.map cvC) hml hmS (by omega) y.1 (y.2.map cv) hlb (by simp only [List.length_nil] at hln; omega)
  rw [hNe] at hi
  have hA : (if tubeOk y.1 (y.2.map cv) = true then askS (L.map cvC) y.1 (y.2.map cv) (nC (L.map cvC) []) else []).length ≤ 1048576 := by
    split
    · unfold askS
      rw [List.length_map]
      refine Nat.le_trans (List.length_filter_le _ _) ?_
      simp only [List.length_nil] at hln
      omega
    · simp
  generalize (if tubeOk y.1 (y.2.map cv) = true then askS (L.map cvC) y.1 (y.2.map cv) (nC (L.map cvC) []) else []) = R at hi hs hA
  have he := eq_clashes R (by omega)
  have hmk := mark_clashes R (by omega)
  have hh := held_clashes R (by omega)
  have hei := eq_index (L.map cvC) (by omega) (fun c hc => by have := hmS c hc; omega)
  have het := eq_tube y.1 (y.2.map cv) (by omega)
  have hcc := cntC_le (L.map cvC) hmS
  have hmi := mark_index (L.map cvC) hml hmS (by omega)
  have hmt := mark_tube y.1 (y.2.map cv) (by omega) (K := 1 + (cntC (L.map cvC) : Int)) (by omega) (by omega)
  simp only [h', Option.bind_some]
  refine Ev.neg (by omega) (Ev.bind ht (Ev.bind hu (Ev.bind hs (Ev.bind ht (Ev.bind hu (Ev.bind hi (Ev.bind he (Ev.pos rfl (Ev.bind ht (Ev.bind hei (Ev.pos rfl (Ev.bind hu (Ev.bind het (Ev.pos rfl (Ev.bind hmi (Ev.bind hmt (Ev.neg (by simp only; omega) (Ev.bind he ?_))))))))))))))))))
  exact Ev.step (fun k => laws_FnExactProbeAsk.j0.eq_2 ..) (Ev.neg (by simp) (Ev.bind hmk (Ev.bind hh (Ev.neg (by omega) (Ev.pos rfl (Ev.bind ht (Ev.bind hu (Ev.bind hi (Ev.bind he (Ev.pos rfl (Ev.bind hh (Ev.neg (by omega) (Ev.pos rfl (Ev.now true))))))))))))))
end Go.Proofs.Ytdbomnhdpniigaa.Pure
