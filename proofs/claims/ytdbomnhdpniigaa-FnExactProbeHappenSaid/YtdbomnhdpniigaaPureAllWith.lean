/- FnExactProbeAll and FnExactProbeWith: program and reference give one answer at every argument, and the answer owns its memory. No condition. -/
import Derived.Test.YtdbomnhdpniigaaQ9
namespace Go.Proofs.Ytdbomnhdpniigaa.Pure
open Go.RowKit Go.Proofs.Ytdbomnhdpniigaa.PA Go.Proofs.Ytdbomnhdpniigaa.Q Go.Proofs.YtdbomnhdpniigaaW.PrintWords Go.Proofs.YtdbomnhdpniigaaW.PrintLast
theorem map_ok {l : List S35} (hb : ∀ x ∈ l, x.f1.length ≤ 1048576 ∧ x.f0.size ≤ 1048576) : ∀ x ∈ l.map cvT, x.f1.length ≤ 1048576 := by
  intro x hx
  obtain ⟨y, hy, rfl⟩ := List.mem_map.1 hx
  have := (hb y hy).1
  simp only [cvT, List.length_map]
  exact this
theorem map_ok' {l : List S35} (hb : ∀ x ∈ l, x.f1.length ≤ 1048576 ∧ x.f0.size ≤ 1048576) : ∀ x ∈ l.map cvT, x.f1.length ≤ 9223372036854775807 := fun x hx => by
  have := map_ok hb x hx
  omega
theorem len_of {s : ByteArray} {l : List S121} {n : Int} (h : n ≤ 1048576) (h0 : 0 ≤ n - s.size - l.length) : l.length ≤ 1048576 := by omega
theorem FnExactProbeAll (L : List S35) (w : g_tubes L) : ∃ k, laws_FnExactProbeAll.f k L = some true := by
  refine Ev.rounds (g := fun k => laws_FnExactProbeAll.f k L) ?_
  unfold laws_FnExactProbeAll.f
  obtain ⟨m, hm, h⟩ := sz_tubes L w
  refine Ev.bind hm ?_
  rcases h with rfl | ⟨h0, h1, hl, hb⟩
  · exact Ev.pos (by omega) (Ev.now true)
  · have ht := to_tubes L hl (fun x hx => (hb x hx).1)
    have he := eq_clashes (allA (L.map cvT)) (by have := allA_len (L.map cvT); omega)
    have ha := allA_len (L.map cvT)
    have hcn := cnt_le (map_ok hb)
    refine Ev.neg (by omega) (Ev.bind ht (Ev.bind (spec_all _) (Ev.bind ht (Ev.bind (impl_all _) (Ev.bind he (Ev.pos rfl (Ev.bind ht (Ev.bind (eq_tubes _ (by rw [List.length_map]; omega) (map_ok' hb)) (Ev.pos rfl (Ev.bind (mark_tubes _ (by rw [List.length_map]; omega) (map_ok hb)) (Ev.neg (by simp only; omega) (Ev.bind he ?_))))))))))))
    have hmk := mark_clashes (allA (L.map cvT)) (by omega)
    have hh := held_clashes (allA (L.map cvT)) (by omega)
    refine Ev.step (f := fun k => (laws_markProbeClashS.f k (allA (L.map cvT)) 1).bind fun b => (laws_heldProbeClashS.f k b.2 1).bind fun t => if t < 0 then some false else if t = b.1 then ((laws_toProbeTubeS.f k L).bind fun p => (impl_ProbeAll.f k p).bind fun q => (laws_eqProbeClashS.f k q (allA (L.map cvT))).bind fun u => if u = true then ((laws_heldProbeClashS.f k b.2 1).bind fun c => if c < 0 then some false else if c = b.1 then some true else some false) else some false) else some false) (fun k => ?_) ?_
    · simp only [laws_FnExactProbeAll.j0]
      rw [if_neg (by simp)]
    · exact Ev.bind hmk (Ev.bind hh (Ev.neg (by omega) (Ev.pos rfl (Ev.bind ht (Ev.bind (impl_all _) (Ev.bind he (Ev.pos rfl (Ev.bind hh (Ev.neg (by omega) (Ev.pos rfl (Ev.now true)))))))))))
theorem FnExactProbeWith (L : List S35) (y : S35) (w : g_tubes L) (v : g_tube y) : ∃ k, laws_FnExactProbeWith.f k L y.f0 y.f1 = some true := by
  refine Ev.rounds (g := fun k => laws_FnExactProbeWith.f k L y.f0 y.f1) ?_
  unfold laws_FnExactProbeWith.f
  obtain ⟨m, hm, h⟩ := sz_tubes L w
  refine Ev.bind hm ?_
  rcases h with rfl | ⟨h0, h1, hl, hb⟩
  · exact Ev.pos (by omega) (Ev.now true)
  · have ht := to_tubes L hl (fun x hx => (hb x hx).1)
    refine Ev.neg (by omega) ?_
    rcases sz_tube h0 (by omega) v.1 v.2.1 with h' | ⟨h', h0'⟩
    · simp only [h', Option.bind_some]
      exact Ev.pos (by omega) (Ev.now true)
    · have hl' := len_of (by omega) h0'
      have hu := to_tube y.f0 y.f1 hl'
      have hlen := withA_len (L.map cvT) y.f0 (y.f1.map cv)
      have he := eq_clashes (withA (L.map cvT) y.f0 (y.f1.map cv)) (by omega)
      have hcn := cnt_le (map_ok hb)
      have hml : (L.map cvT).length = L.length := List.length_map ..
      simp only [h', Option.bind_some]
      refine Ev.neg (by omega) (Ev.bind ht (Ev.bind hu (Ev.bind (spec_with _ _ _) (Ev.bind ht (Ev.bind hu (Ev.bind (impl_with _ _ _) (Ev.bind he (Ev.pos rfl (Ev.bind ht (Ev.bind (eq_tubes _ (by omega) (map_ok' hb)) (Ev.pos rfl (Ev.bind hu (Ev.bind (eq_tube _ _ (by rw [List.length_map]; omega)) (Ev.pos rfl (Ev.bind (mark_tubes _ (by omega) (map_ok hb)) ?_)))))))))))))))
      refine Ev.bind (mark_tube y.f0 (y.f1.map cv) (by rw [List.length_map]; omega) (K := 1 + cntT (L.map cvT)) (by omega) (by rw [List.length_map]; omega)) (Ev.neg (by simp only [List.length_map]; omega) (Ev.bind he ?_))
      have hmk := mark_clashes (withA (L.map cvT) y.f0 (y.f1.map cv)) (by omega)
      have hh := held_clashes (withA (L.map cvT) y.f0 (y.f1.map cv)) (by omega)
      refine Ev.step (f := fun k => (laws_markProbeClashS.f k (withA (L.map cvT) y.f0 (y.f1.map cv)) 1).bind fun b => (laws_heldProbeClashS.f k b.2 1).bind fun t => if t < 0 then some false else if t = b.1 then ((laws_toProbeTubeS.f k L).bind fun p => (laws_toProbeTube.f k y.f0 y.f1).bind fun z => (impl_ProbeWith.f k p z.1 z.2).bind fun q => (laws_eqProbeClashS.f k q (withA (L.map cvT) y.f0 (y.f1.map cv))).bind fun u => if u = true then ((laws_heldProbeClashS.f k b.2 1).bind fun c => if c < 0 then some false else if c = b.1 then some true else some false) else some false) else some false) (fun k => ?_) ?_
      · simp only [laws_FnExactProbeWith.j0]
        rw [if_neg (by simp)]
      · exact Ev.bind hmk (Ev.bind hh (Ev.neg (by omega) (Ev.pos rfl (Ev.bind ht (Ev.bind hu (Ev.bind (impl_with _ _ _) (Ev.bind he (Ev.pos rfl (Ev.bind hh (Ev.neg (by omega) (Ev.pos rfl (Ev.now true))))))))))))
end Go.Proofs.Ytdbomnhdpniigaa.Pure
