/- FnMeet: what the two meetings of two drawn tubes owe. No condition. -/
import Derived.DataShut
import Derived.Test.YtfoapgcnjnogiaaQ7
namespace Go.Proofs.Ytfoapgcnjnogiaa.Pure
open Go.RowKit Go.Proofs.Ytfoapgcnjnogiaa.PA Go.Proofs.Ytfoapgcnjnogiaa.Q Go.Proofs.YtfoapgcnjnogiaaW.PrintWords Go.Proofs.YtfoapgcnjnogiaaW.PrintLast
theorem nil_toList : (⟨#[]⟩ : ByteArray).toList = [] := by
 rw [ByteArray.toList, ByteArray.toList.loop]
 rfl
/-- The look back from the tick x. -/
theorem meet_back {s s' n n' : ByteArray} {l l' : List S26} {T I J : Int} (hl : l.length ≤ 100) (hl' : l'.length ≤ 100) (ho : l.all bOk = true) (hT : 0 ≤ T) (hT' : T ≤ 10000) (hn : ∀ t, t < T → nearL l l' t = false) (d : Nat) :
  ∀ x : Int, -1 ≤ x → x < T → (x + 1).toNat = d → Ev (fun k => laws_FnMeet.l0 k x s l s' l' n n' T I J) true := by
 induction d with
 | zero =>
  intro x h0 h1 hd
  exact Ev.step (fun k => laws_FnMeet.l0.eq_2 ..) (Ev.neg (by omega) (Ev.step (fun k => laws_FnMeet.j3.eq_2 ..) (Ev.neg (by simp) (Ev.now true))))
 | succ d ih =>
  intro x h0 h1 hd
  have hw : wrap64 (x - 1) = x - 1 := wr (by omega) (by omega)
  have hi := ih (x - 1) (by omega) (by omega) (by omega)
  rw [← hw] at hi
  refine Ev.step (fun k => laws_FnMeet.l0.eq_2 ..) (Ev.pos (by omega) (Ev.step (fun k => laws_FnMeet.j3.eq_2 ..) ?_))
  by_cases h : x > wrap64 (T - 40)
  ·exact Ev.pos (decide_eq_true h) (Ev.bind (nearAt _ _ _ hl hl' ho) (Ev.neg (by rw [hn x h1]; simp) hi))
  ·exact Ev.neg (by simp [h]) (Ev.now true)
theorem best_none {l l' : List S26} (ho : l.all bOk = true) (ho' : l'.all bOk = true) (h : meetSt l l' = none) (t : Int) : nearL l l' t = false := by
 have hb := best l l'
 rw [h] at hb
 rw [Bool.eq_false_iff]
 intro hn
 simp only [nearL, List.any_eq_true] at hn
 obtain ⟨x, hx, y, hy, hxy⟩ := hn
 rw [nearT_iff (List.all_eq_true.1 ho _ hx) (List.all_eq_true.1 ho' _ hy)] at hxy
 exact hb x y ⟨hx, hy⟩ hxy.1
theorem best_some {l l' : List S26} (ho : l.all bOk = true) (ho' : l'.all bOk = true) {t : Int × Int × Int} (h : meetSt l l' = some t) :
  (∃ i j : Nat, t.2.1 = i ∧ t.2.2 = j ∧ ∃ (hi : i < l.length) (hj : j < l'.length), bNear l[i] l'[j] = (t.1, true)) ∧ 0 ≤ t.1 ∧ t.1 ≤ 10000 ∧ ∀ u, u < t.1 → nearL l l' u = false := by
 have hb := best l l'
 rw [h] at hb
 obtain ⟨⟨i, j, e, e', hi, hj, hn⟩, hm⟩ := hb
 have hbd := bNear_bounds (bOk_of ho hi) (bOk_of ho' hj) (by rw [hn])
 rw [hn] at hbd
 refine ⟨⟨i, j, e, e', hi, hj, hn⟩, hbd.1, hbd.2, fun u hu => ?_⟩
 rw [Bool.eq_false_iff]
 intro hx
 simp only [nearL, List.any_eq_true] at hx
 obtain ⟨x, hx, y, hy, hxy⟩ := hx
 rw [nearT_iff (List.all_eq_true.1 ho _ hx) (List.all_eq_true.1 ho' _ hy)] at hxy
 have := hm x y ⟨hx, hy⟩ hxy.1
 omega
theorem meetSt_comm {l l' : List S26} : (meetSt l l' = none → meetSt l' l = none) ∧ ∀ t, meetSt l l' = some t → ∃ u, meetSt l' l = some u ∧ u.1 = t.1 := by
 have h := best l l'
 have h' := best l' l
 refine ⟨fun e => ?_, fun t e => ?_⟩
 ·rw [e] at h
  cases e' : meetSt l' l with
  | none => rfl
  | some u =>
   rw [e'] at h'
   obtain ⟨⟨i, j, _, _, hi, hj, hn⟩, _⟩ := h'
   exact absurd (by rw [bNear_comm, hn]) (h l[j] l'[i] ⟨List.getElem_mem hj, List.getElem_mem hi⟩)
 ·rw [e] at h
  obtain ⟨⟨i, j, _, _, hi, hj, hn⟩, hm⟩ := h
  cases e' : meetSt l' l with
  | none =>
   rw [e'] at h'
   exact absurd (by rw [bNear_comm, hn]) (h' l'[j] l[i] ⟨List.getElem_mem hj, List.getElem_mem hi⟩)
  | some u =>
   rw [e'] at h'
   obtain ⟨⟨i', j', _, _, hi', hj', hn'⟩, hm'⟩ := h'
   refine ⟨u, rfl, ?_⟩
   have a := hm' l'[j] l[i] ⟨List.getElem_mem hj, List.getElem_mem hi⟩ (by rw [bNear_comm, hn])
   have b := hm l[j'] l'[i'] ⟨List.getElem_mem hj', List.getElem_mem hi'⟩ (by rw [bNear_comm, hn'])
   rw [bNear_comm, hn] at a
   rw [bNear_comm, hn'] at b
   simp only at a b
   omega
theorem meet_found {s s' n n' : ByteArray} {l l' : List S26} {a b c : Int} (h : tubeOk s l = true) (h' : tubeOk s' l' = true) {t : Int × Int × Int} (e : meetSt l l' = some t) (hc : a = t.1) :
  Ev (fun k => laws_FnMeet.j0 k true false s l s' l' s s' t.1 t.2.1 t.2.2 n n' a b c) true := by
 have hl := (len_of_tube h).1
 have hl' := (len_of_tube h').1
 have ho := (len_of_tube h).2
 have ho' := (len_of_tube h').2
 obtain ⟨⟨i, j, ei, ej, hi, hj, hn⟩, t0, t1, hb⟩ := best_some ho ho' e
 have hw : wrap64 (t.1 - 1) = t.1 - 1 := wr (by omega) (by omega)
 refine Ev.step (fun k => laws_FnMeet.j0.eq_2 ..) (Ev.neg (by simp) (Ev.pos rfl (Ev.pos hc (Ev.pos rfl (Ev.pos rfl ?_)))))
 rw [ei, ej]
 refine Ev.pos (by omega) (Ev.pos (by omega) (Ev.pos (by omega) (Ev.pos (by omega) ?_)))
 rw [rd26 hi, rd26 hj]
 have hx := nearT_at (bOk_of ho hi) (bOk_of ho' hj) (by rw [hn])
 rw [hn] at hx
 refine Ev.bind (wnear (bOk_of ho hi) _ _) ?_
 rw [hx]
 refine Ev.step (fun k => laws_FnMeet.j1.eq_2 ..) (Ev.neg (by simp) ?_)
 rw [hw]
 exact meet_back (by omega) (by omega) ho t0 t1 hb _ _ (by omega) (by omega) rfl
theorem meet_not {s s' n n' : ByteArray} {l l' : List S26} {a b c : Int} (e : tubeOk s l = true → tubeOk s' l' = true → meetSt l l' = none) :
  Ev (fun k => laws_FnMeet.j0 k false false s l s' l' ⟨#[]⟩ ⟨#[]⟩ 0 0 0 n n' a b c) true := by
 refine Ev.step (fun k => laws_FnMeet.j0.eq_2 ..) (Ev.neg (by simp) (Ev.neg (by simp) (Ev.pos (by simp [nil_toList]) (Ev.bind (spec_tube s l) ?_))))
 by_cases h : tubeOk s l = true
 ·refine Ev.pos h (Ev.bind (spec_tube s' l') ?_)
  by_cases h' : tubeOk s' l' = true
  ·have ho := (len_of_tube h).2
   have ho' := (len_of_tube h').2
   have hl := (len_of_tube h).1
   have hl' := (len_of_tube h').1
   refine Ev.pos h' (Ev.bind (ever _ _ (by omega) (by omega) ho) (Ev.eq (Ev.now _) ?_))
   have hz : ∀ t, nearL l l' t = false := fun t => best_none ho ho' (e h h') t
   simp [hz]
  ·exact Ev.neg h' (Ev.now true)
 ·exact Ev.neg h (Ev.now true)
theorem meet_core (s : ByteArray) (l : List S26) (s' : ByteArray) (l' : List S26) : Ev (fun k => laws_FnMeet.j0 k (meet s l s' l').2.2.2.2.2 ((meet s l s' l').2.2.2.2.2 != (meet s' l' s l).2.2.2.2.2) s l s' l' (meet s l s' l').1 (meet s l s' l').2.1 (meet s l s' l').2.2.1 (meet s l s' l').2.2.2.1 (meet s l s' l').2.2.2.2.1 (meet s' l' s l).1 (meet s' l' s l).2.1 (meet s' l' s l).2.2.1 (meet s' l' s l).2.2.2.1 (meet s' l' s l).2.2.2.2.1) true := by
 by_cases h : tubeOk s l = true ∧ tubeOk s' l' = true
 ·rw [meet, if_pos h, meet, if_pos ⟨h.2, h.1⟩]
  cases e : meetSt l l' with
  | none =>
   rw [(meetSt_comm (l := l) (l' := l')).1 e]
   exact meet_not (fun _ _ => e)
  | some t =>
   obtain ⟨u, e', hu⟩ := (meetSt_comm (l := l) (l' := l')).2 t e
   rw [e']
   exact meet_found h.1 h.2 e hu
 ·rw [meet, if_neg h, meet, if_neg (fun x => h ⟨x.2, x.1⟩)]
  exact meet_not (fun a b => absurd ⟨a, b⟩ h)
theorem bytes_of {l : List Int} (w : g_bytes l) : ∀ x ∈ l, 0 ≤ x ∧ x ≤ 255 := by
 intro x hx
 have h := (Lit.wf_int_iff _ _).1 (w.2 x hx)
 have h0 : IntKind.u8.min = 0 := rfl
 have h1 : IntKind.u8.max = 255 := rfl
 omega
theorem FnMeet (l : List Int) (w : g_bytes l) : ∃ k, laws_FnMeet.f k l = some true := by
 refine Ev.rounds (g := fun k => laws_FnMeet.f k l) ?_
 unfold laws_FnMeet.f
 by_cases h : (l.length : Int) > 1048576
 ·exact Ev.pos h (Ev.now true)
 ·obtain ⟨s, a, s', a', e, _⟩ := drawMeet_ev l (bytes_of w)
  refine Ev.neg h (Ev.bind e (Ev.bind (impl_meet _ _ _ _) (Ev.bind (spec_meet _ _ _ _) (Ev.bind (impl_meet _ _ _ _) (Ev.neg (by simp) (Ev.neg (by simp) ?_))))))
  exact meet_core s a s' a'
end Go.Proofs.Ytfoapgcnjnogiaa.Pure
