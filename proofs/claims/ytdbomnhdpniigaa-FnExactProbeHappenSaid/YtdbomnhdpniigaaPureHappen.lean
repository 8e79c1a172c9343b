/- FnExactProbeHappen: program and reference give one answer at every argument, and the answer owns its memory. No condition. -/
import Derived.Test.YtdbomnhdpniigaaQ11
import Derived.Test.YtdbomnhdpniigaaPureAllWith
namespace Go.Proofs.Ytdbomnhdpniigaa.Pure
open Go.RowKit Go.Proofs.Ytdbomnhdpniigaa.PA Go.Proofs.Ytdbomnhdpniigaa.Q Go.Proofs.YtdbomnhdpniigaaW.PrintWords Go.Proofs.YtdbomnhdpniigaaW.PrintLast
theorem to_event (d : Bool) (s : ByteArray) (l : List S121) (hl : l.length ≤ 1048576) : Ev (fun k => laws_toProbeEvent.f k d s l) (d, s, l.map cv) := by
  unfold laws_toProbeEvent.f
  exact Ev.bind (to_tube s l hl) (Ev.now _)
theorem eq_event (d : Bool) (s : ByteArray) (l : List S95) (hl : l.length ≤ 9223372036854775807) : Ev (fun k => laws_eqProbeEvent.f k d s l d s l) true := by
  unfold laws_eqProbeEvent.f
  exact Ev.neg (by simp) (Ev.bind (eq_tube s l hl) (Ev.pos rfl (Ev.now true)))
theorem mark_event (d : Bool) (s : ByteArray) (l : List S95) (hl : l.length ≤ 10000000) {K : Int} (h0 : 0 ≤ K) (h1 : K + 6 * l.length ≤ 100000000000000) : Ev (fun k => laws_markProbeEvent.f k d s l K) (K + 6 * l.length, markL l K) := by
  unfold laws_markProbeEvent.f
  exact Ev.bind (mark_tube s l hl h0 h1) (Ev.now _)
theorem sz_event {d : Bool} {s : ByteArray} {l : List S121} {n : Int} (h0 : 0 ≤ n) (h1 : n ≤ 1048576) (hs : s.size ≤ maxLen) (hl : l.length ≤ maxLen) : laws_szProbeEvent.f d s l n = some (-1) ∨ (laws_szProbeEvent.f d s l n = some (n - s.size - l.length) ∧ 0 ≤ n - s.size - l.length) := by
  unfold laws_szProbeEvent.f
  rcases sz_tube h0 h1 hs hl with h | ⟨h, h'⟩
  · left; rw [h]; rfl
  · right
    refine ⟨?_, h'⟩
    rw [h]
    simp only [Option.bind_some]
    rw [if_neg (by omega)]
theorem FnExactProbeHappen (L : List S35) (x : Bool × S35) (w : g_tubes L) (v : g_event x) : ∃ k, laws_FnExactProbeHappen.f k L x.1 x.2.f0 x.2.f1 = some true := by
  obtain ⟨d, y⟩ := x
  obtain ⟨_, v⟩ := v
  simp only at v ⊢
  refine Ev.rounds (g := fun k => laws_FnExactProbeHappen.f k L d y.f0 y.f1) ?_
  unfold laws_FnExactProbeHappen.f
  obtain ⟨m, hm, h⟩ := sz_tubes L w
  refine Ev.bind hm ?_
  rcases h with rfl | ⟨h0, h1, hl, hb⟩
  · exact Ev.pos (by omega) (Ev.now true)
  · have ht := to_tubes L hl (fun x hx => (hb x hx).1)
    refine Ev.neg (by omega) ?_
    rcases sz_event (d := d) h0 (by omega) v.1 v.2.1 with h' | ⟨h', h0'⟩
    · simp only [h', Option.bind_some]
      exact Ev.pos (by omega) (Ev.now true)
    · have hl' := len_of (by omega) h0'
      have hu := to_event d y.f0 y.f1 hl'
      have hcn := cnt_le (map_ok hb)
      have hml : (L.map cvT).length = L.length := List.length_map ..
      have hsm := happen_small (L.map cvT) d y.f0 (y.f1.map cv)
      have hi := impl_happen (L.map cvT) d y.f0 (y.f1.map cv)
      have hs := spec_happen (L.map cvT) d y.f0 (y.f1.map cv)
      generalize happen (L.map cvT) d y.f0 (y.f1.map cv) = H at hsm hi hs
      obtain ⟨R, c⟩ := H
      simp only at hsm hi hs
      have hR := hsm.1
      have hRb : ∀ x ∈ R, x.f1.length ≤ 1048576 := fun x hx => by have := hsm.2 x hx; omega
      have he := eq_tubes R (by omega) (fun x hx => by have := hsm.2 x hx; omega)
      have hmk := mark_tubes R (by omega) hRb
      have hh := held_tubes R (by omega) hRb
      have hcR := cnt_le hRb
      simp only [h', Option.bind_some]
      refine Ev.neg (by omega) (Ev.bind ht (Ev.bind hu (Ev.bind hs (Ev.bind ht (Ev.bind hu (Ev.bind hi (Ev.bind he (Ev.pos rfl ?_))))))))
      refine Ev.step (fun k => laws_FnExactProbeHappen.j0.eq_2 ..) (Ev.neg (by simp) (Ev.bind ht (Ev.bind (eq_tubes _ (by omega) (map_ok' hb)) (Ev.pos rfl (Ev.bind hu (Ev.bind (eq_event _ _ _ (by rw [List.length_map]; omega)) (Ev.pos rfl (Ev.bind (mark_tubes _ (by omega) (map_ok hb)) ?_))))))))
      refine Ev.bind (mark_event d y.f0 (y.f1.map cv) (by rw [List.length_map]; omega) (K := 1 + cntT (L.map cvT)) (by omega) (by rw [List.length_map]; omega)) (Ev.neg (by simp only [List.length_map]; omega) (Ev.bind he (Ev.pos rfl ?_)))
      refine Ev.step (fun k => laws_FnExactProbeHappen.j1.eq_2 ..) (Ev.neg (by simp) (Ev.bind hmk (Ev.bind hh (Ev.neg (by omega) (Ev.pos rfl (Ev.bind ht (Ev.bind hu (Ev.bind hi (Ev.bind he (Ev.pos rfl ?_))))))))))
      exact Ev.step (fun k => laws_FnExactProbeHappen.j2.eq_2 ..) (Ev.neg (by simp) (Ev.bind hh (Ev.neg (by omega) (Ev.pos rfl (Ev.now true)))))
end Go.Proofs.Ytdbomnhdpniigaa.Pure
