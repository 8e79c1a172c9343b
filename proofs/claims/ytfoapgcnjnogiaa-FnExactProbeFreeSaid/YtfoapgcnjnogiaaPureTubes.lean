/- The exact laws over tubes that only ask: ProbeTubeOk, ProbeSkyOk, ProbeSmaller, ProbeMeet: program and reference give one answer at every argument. No condition. -/
import Derived.Test.YtfoapgcnjnogiaaQ3
namespace Go.Proofs.Ytfoapgcnjnogiaa.Pure
open Go.RowKit Go.Proofs.Ytfoapgcnjnogiaa.PA Go.Proofs.Ytfoapgcnjnogiaa.Q Go.Proofs.YtfoapgcnjnogiaaW.PrintWords Go.Proofs.YtfoapgcnjnogiaaW.PrintLast
theorem len_of {s : ByteArray} {l : List S24} {n : Int} (h1 : n ≤ 1048576) (h2 : 0 ≤ n - s.size - l.length) : l.length ≤ 1048576 := by omega
theorem FnExactProbeTubeOk (x : S34) (w : g_tube x) : ∃ k, laws_FnExactProbeTubeOk.f k x.f0 x.f1 = some true := by
  refine Ev.rounds (g := fun k => laws_FnExactProbeTubeOk.f k x.f0 x.f1) ?_
  unfold laws_FnExactProbeTubeOk.f
  rcases sz_tube (n := 1048576) (by omega) (by omega) w.1 w.2.1 with h | ⟨h, h0⟩
  · simp only [h, Option.bind_some]
    exact Ev.pos (by omega) (Ev.now true)
  · have hl := len_of (by omega) h0
    simp only [h, Option.bind_some]
    refine Ev.neg (by omega) (Ev.bind (to_tube _ _ hl) (Ev.bind (spec_tube _ _) (Ev.bind (to_tube _ _ hl) (Ev.bind (impl_tube _ _) ?_))))
    exact Ev.neg (by simp) (Ev.bind (to_tube _ _ hl) (Ev.bind (eq_tube _ _ (by rw [List.length_map]; omega)) (Ev.pos rfl (Ev.now true))))
theorem FnExactProbeSmaller (x y : S34) (w : g_tube x) (v : g_tube y) : ∃ k, laws_FnExactProbeSmaller.f k x.f0 x.f1 y.f0 y.f1 = some true := by
  refine Ev.rounds (g := fun k => laws_FnExactProbeSmaller.f k x.f0 x.f1 y.f0 y.f1) ?_
  unfold laws_FnExactProbeSmaller.f
  rcases sz_tube (n := 1048576) (by omega) (by omega) w.1 w.2.1 with h | ⟨h, h0⟩
  · simp only [h, Option.bind_some]
    exact Ev.pos (by omega) (Ev.now true)
  · have hl := len_of (by omega) h0
    simp only [h, Option.bind_some]
    refine Ev.neg (by omega) ?_
    rcases sz_tube h0 (by omega) v.1 v.2.1 with h' | ⟨h', h0'⟩
    · simp only [h', Option.bind_some]
      exact Ev.pos (by omega) (Ev.now true)
    · have hl' := len_of (by omega) h0'
      simp only [h', Option.bind_some]
      refine Ev.neg (by omega) (Ev.bind (to_tube _ _ hl) (Ev.bind (to_tube _ _ hl') (Ev.bind (spec_smaller _ _ _ _) (Ev.bind (to_tube _ _ hl) (Ev.bind (to_tube _ _ hl') (Ev.bind (impl_smaller _ _ _ _) ?_))))))
      exact Ev.neg (by simp) (Ev.bind (to_tube _ _ hl) (Ev.bind (eq_tube _ _ (by rw [List.length_map]; omega)) (Ev.pos rfl (Ev.bind (to_tube _ _ hl') (Ev.bind (eq_tube _ _ (by rw [List.length_map]; omega)) (Ev.pos rfl (Ev.now true)))))))
theorem map_ok {l : List S34} (h : ∀ x ∈ l, x.f1.length ≤ 1048576 ∧ x.f0.size ≤ 1048576) : ∀ x ∈ l.map cvT, x.f1.length ≤ 9223372036854775807 := by
  intro x hx
  obtain ⟨y, hy, rfl⟩ := List.mem_map.1 hx
  have := (h y hy).1
  simp only [cvT, List.length_map]
  omega
theorem FnExactProbeSkyOk (l : List S34) (w : g_tubes l) : ∃ k, laws_FnExactProbeSkyOk.f k l = some true := by
  refine Ev.rounds (g := fun k => laws_FnExactProbeSkyOk.f k l) ?_
  unfold laws_FnExactProbeSkyOk.f
  obtain ⟨m, hm, h⟩ := sz_tubes l w
  refine Ev.bind hm ?_
  rcases h with rfl | ⟨h0, h1, hl, hb⟩
  · exact Ev.pos (by omega) (Ev.now true)
  · have ht := to_tubes l hl (fun x hx => (hb x hx).1)
    refine Ev.neg (by omega) (Ev.bind ht (Ev.bind (spec_sky _) (Ev.bind ht (Ev.bind (impl_sky _) ?_))))
    exact Ev.neg (by simp) (Ev.bind ht (Ev.bind (eq_tubes _ (by rw [List.length_map]; omega) (map_ok hb)) (Ev.pos rfl (Ev.now true))))
theorem eq_clash (c : Cl) : laws_eqProbeClash.f c.1 c.2.1 c.2.2.1 c.2.2.2.1 c.2.2.2.2.1 c.1 c.2.1 c.2.2.1 c.2.2.2.1 c.2.2.2.2.1 = some true := by simp [laws_eqProbeClash.f]
theorem FnExactProbeMeet (x y : S34) (w : g_tube x) (v : g_tube y) : ∃ k, laws_FnExactProbeMeet.f k x.f0 x.f1 y.f0 y.f1 = some true := by
  refine Ev.rounds (g := fun k => laws_FnExactProbeMeet.f k x.f0 x.f1 y.f0 y.f1) ?_
  unfold laws_FnExactProbeMeet.f
  rcases sz_tube (n := 1048576) (by omega) (by omega) w.1 w.2.1 with h | ⟨h, h0⟩
  · simp only [h, Option.bind_some]
    exact Ev.pos (by omega) (Ev.now true)
  · have hl := len_of (by omega) h0
    simp only [h, Option.bind_some]
    refine Ev.neg (by omega) ?_
    rcases sz_tube h0 (by omega) v.1 v.2.1 with h' | ⟨h', h0'⟩
    · simp only [h', Option.bind_some]
      exact Ev.pos (by omega) (Ev.now true)
    · have hl' := len_of (by omega) h0'
      simp only [h', Option.bind_some]
      refine Ev.neg (by omega) (Ev.bind (to_tube _ _ hl) (Ev.bind (to_tube _ _ hl') (Ev.bind (spec_meet _ _ _ _) (Ev.bind (to_tube _ _ hl) (Ev.bind (to_tube _ _ hl') (Ev.bind (impl_meet _ _ _ _) ?_))))))
      simp only [eq_clash, Option.bind_some]
      refine Ev.pos trivial (Ev.step (f := fun k => (laws_toProbeTube.f k x.f0 x.f1).bind fun p => (laws_eqProbeTube.f k x.f0 (x.f1.map cv) p.1 p.2).bind fun t => if t = true then ((laws_toProbeTube.f k y.f0 y.f1).bind fun q => (laws_eqProbeTube.f k y.f0 (y.f1.map cv) q.1 q.2).bind fun t => if t = true then some true else some false) else some false) (fun k => ?_) ?_)
      · simp only [laws_FnExactProbeMeet.j0]
        rw [if_neg (by simp)]
      · exact Ev.bind (to_tube _ _ hl) (Ev.bind (eq_tube _ _ (by rw [List.length_map]; omega)) (Ev.pos rfl (Ev.bind (to_tube _ _ hl') (Ev.bind (eq_tube _ _ (by rw [List.length_map]; omega)) (Ev.pos rfl (Ev.now true))))))
end Go.Proofs.Ytfoapgcnjnogiaa.Pure
