/- FnAll: two by two, and taking one out takes out just the clashes that it is in. No condition. -/
import Derived.DataShut
import Derived.Test.YtdbomnhdpniigaaQ10
import Derived.Test.YtdbomnhdpniigaaQ8
namespace Go.Proofs.Ytdbomnhdpniigaa.Pure
open Go.RowKit Go.Proofs.Ytdbomnhdpniigaa.PA Go.Proofs.Ytdbomnhdpniigaa.Q Go.Proofs.YtdbomnhdpniigaaW.PrintWords Go.Proofs.YtdbomnhdpniigaaW.PrintLast
theorem drawAll_ev (l : List Int) (h : ∀ x ∈ l, 0 ≤ x ∧ x ≤ 255) : ∃ L : List S40, Ev (fun k => spec_DrawProbeAll.f k l) L := by
  obtain ⟨b, hb, hB⟩ := open_ev l h
  obtain ⟨L, q, e, _⟩ := anySky_ev hB (p := 0) (by omega) (by omega)
  refine ⟨L, ?_⟩
  unfold spec_DrawProbeAll.f
  simp only [hb, Option.bind_some]
  exact Ev.bind e (Ev.now _)
theorem clashes_l (l : List S49) (hl : l.length ≤ 9223372036854775807) : ∀ i : Nat, i ≤ l.length → Ev (fun k => laws_wClashes.l0 k l l (i : Int)) true :=
  drop_ind l (P := fun i _ => Ev (fun k => laws_wClashes.l0 k l l (i : Int)) true)
    (Ev.step (f := fun _ => some true) (fun k => by simp only [laws_wClashes.l0]; rw [if_neg (by omega)]) (Ev.is rfl))
    (fun i hi ih => by
      refine Ev.step (f := fun k => laws_wClashes.l0 k l l ((i + 1 : Nat) : Int)) (fun k => ?_) ih
      simp only [laws_wClashes.l0]
      rw [if_pos (by omega), if_pos (by omega), if_pos (by omega), rd52 hi, w64 hi hl, if_neg (by simp)])
theorem clashes (l : List S49) (hl : l.length ≤ 9223372036854775807) : Ev (fun k => laws_wClashes.f k l l) true := by
  unfold laws_wClashes.f
  exact Ev.pos rfl (clashes_l l hl 0 (by omega))
/-- What the law does behind the count of the clashes that one is in. -/
def behind (L : List S40) (A : List S49) (i : Nat) (m : Int) (k : Nat) : Option Bool := if 0 ≤ (i : Int) then (if (i : Int) < (L.length : Int) then ((impl_ProbeFree.f k L (rd_T40 L (i : Int)).f0 (rd_T40 L (i : Int)).f1).bind fun t => (if (t != (m == 0)) = true then laws_FnAll.j3 k L A (i : Int) m true else ((impl_ProbeWith.f k L (rd_T40 L (i : Int)).f0 (rd_T40 L (i : Int)).f1).bind fun q => laws_FnAll.j3 k L A (i : Int) m ((q.length : Int) != m)))) else none) else none
theorem count_l {L : List S40} {A : List S49} (hA : A.length ≤ 1000) {i : Nat} (hi : i < L.length) {R : Bool} : ∀ j : Nat, j ≤ A.length → ∀ n : Nat, n ≤ j → Ev (behind L A i ((n + (A.drop j).countP (hit L[i].f0) : Nat) : Int)) R → Ev (fun k => laws_FnAll.l1 k L A (i : Int) (n : Int) (j : Int)) R :=
  drop_ind A (P := fun j r => ∀ n : Nat, n ≤ j → Ev (behind L A i ((n + r.countP (hit L[i].f0) : Nat) : Int)) R → Ev (fun k => laws_FnAll.l1 k L A (i : Int) (n : Int) (j : Int)) R)
    (fun n _ h => Ev.step (f := behind L A i (n : Int)) (fun k => by simp only [laws_FnAll.l1]; rw [if_neg (by omega)]; rfl) h)
    (fun j hj ih n hn h => by
      by_cases hh : hit L[i].f0 A[j] = true
      · rw [List.countP_cons_of_pos hh] at h
        refine Ev.step (f := fun k => laws_FnAll.l1 k L A (i : Int) ((n + 1 : Nat) : Int) ((j + 1 : Nat) : Int)) (fun k => ?_) (ih (n + 1) (by omega) (by rwa [show n + 1 + List.countP (hit L[i].f0) (A.drop (j + 1)) = n + (List.countP (hit L[i].f0) (A.drop (j + 1)) + 1) by omega]))
        simp only [laws_FnAll.l1]
        rw [if_pos (by omega), if_pos (by omega), if_pos (by omega), if_pos (by omega), rd39 hi, rd52 hj, w64 hj (by omega), w64 (show n < 2000 by omega) (by omega)]
        simp only [hit, Bool.or_eq_true, decide_eq_true_eq] at hh
        by_cases h1 : A[j].f0.toList = L[i].f0.toList
        · rw [if_pos h1]
        · rw [if_neg h1, if_pos (hh.resolve_left h1)]
      · rw [List.countP_cons_of_neg hh] at h
        refine Ev.step (f := fun k => laws_FnAll.l1 k L A (i : Int) (n : Int) ((j + 1 : Nat) : Int)) (fun k => ?_) (ih n (by omega) h)
        simp only [laws_FnAll.l1]
        rw [if_pos (by omega), if_pos (by omega), if_pos (by omega), if_pos (by omega), rd39 hi, rd52 hj, w64 hj (by omega)]
        simp only [hit, Bool.or_eq_true, decide_eq_true_eq, not_or] at hh
        rw [if_neg hh.1, if_neg hh.2])
theorem each {L : List S40} (h : skyOk L = true) : ∀ i : Nat, i ≤ L.length → Ev (fun k => laws_FnAll.l0 k L (allL L) (i : Int)) true :=
  drop_ind L (P := fun i _ => Ev (fun k => laws_FnAll.l0 k L (allL L) (i : Int)) true)
    (Ev.step (f := fun _ => some true) (fun k => by simp only [laws_FnAll.l0]; rw [if_neg (by omega)]) (Ev.is rfl))
    (fun i hi ih => by
      have hk := sky_len h
      have hlen := allL_len hk.1
      have ht := taken h hi
      have hsub := sky_sub h (List.eraseIdx_sublist L i)
      refine Ev.step (f := fun k => laws_FnAll.l1 k L (allL L) (i : Int) ((0 : Nat) : Int) ((0 : Nat) : Int)) (fun k => ?_) (count_l (by omega) hi 0 (by omega) 0 (by omega) ?_)
      · simp only [laws_FnAll.l0]
        rw [if_pos (by omega)]
        rfl
      · rw [List.drop_zero, Nat.zero_add]
        obtain ⟨n, hn⟩ : ∃ n, n = (allL L).countP (hit L[i].f0) := ⟨_, rfl⟩
        rw [← hn] at ht ⊢
        unfold behind
        rw [rd39 hi]
        have hx := hk.2 _ (List.getElem_mem hi)
        have hf : freeA L L[i].f0 L[i].f1 = ((n : Int) == 0) := by
          rw [Bool.eq_iff_iff]
          simp only [freeA, h, hx, Bool.true_and, beq_iff_eq]
          omega
        have hw : withA L L[i].f0 L[i].f1 = withL L[i].f0 L[i].f1 L := by rw [withA, if_pos ⟨h, hx⟩]
        refine Ev.pos (by omega) (Ev.pos (by omega) (Ev.bind (impl_free _ _ _) (Ev.neg (by rw [hf]; simp) (Ev.bind (impl_with _ _ _) ?_))))
        refine Ev.step (fun k => laws_FnAll.j3.eq_2 ..) (Ev.neg (by rw [hw, ht.1]; simp) (Ev.pos (by omega) (Ev.pos (by omega) ?_)))
        rw [rd39 hi]
        refine Ev.bind (impl_drop h hi) (Ev.pos rfl (Ev.bind (impl_all _) (Ev.pos ?_ (Ev.congr (fun k => ?_) ih))))
        · show ((allA (L.eraseIdx i)).length : Int) = wrap64 (((allL L).length : Int) - (n : Int))
          rw [allA, if_pos hsub]
          unfold wrap64
          omega
        · rw [w64 hi (by omega)])
theorem bytes_in {l : List Int} (w : g_bytes l) : ∀ x ∈ l, 0 ≤ x ∧ x ≤ 255 := by
  intro x hx
  have h := (Lit.wf_int_iff _ _).1 (w.2 x hx)
  have h0 : IntKind.u8.min = 0 := rfl
  have h1 : IntKind.u8.max = 255 := rfl
  omega
theorem FnAll (l : List Int) (w : g_bytes l) : ∃ k, laws_FnAll.f k l = some true := by
  refine Ev.rounds (g := fun k => laws_FnAll.f k l) ?_
  unfold laws_FnAll.f
  by_cases hl : (l.length : Int) > 1048576
  · exact Ev.pos hl (Ev.now true)
  · obtain ⟨L, e⟩ := drawAll_ev l (bytes_in w)
    refine Ev.neg hl (Ev.bind e (Ev.bind (impl_all L) (Ev.bind (spec_all L) (Ev.bind (clashes _ (by have := allA_len L; omega)) (Ev.pos rfl (Ev.bind (impl_sky L) (Ev.bind (spec_sky L) ?_)))))))
    refine Ev.step (fun k => laws_FnAll.j0.eq_2 ..) (Ev.neg (by simp) (Ev.bind (spec_sky L) ?_))
    by_cases h : skyOk L = true
    · refine Ev.pos h ?_
      rw [allA, if_pos h]
      exact each h 0 (by omega)
    · exact Ev.neg h (Ev.is (by rw [allA, if_neg h]; rfl))
end Go.Proofs.Ytdbomnhdpniigaa.Pure
