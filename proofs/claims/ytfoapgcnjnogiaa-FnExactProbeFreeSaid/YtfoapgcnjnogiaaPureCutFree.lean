/- FnExactProbeCut and FnExactProbeFree: program and reference give one answer at every argument, and the answer owns its memory. No condition. -/
import Derived.Test.YtfoapgcnjnogiaaQ4
import Derived.Test.YtfoapgcnjnogiaaPureTubes
namespace Go.Proofs.Ytfoapgcnjnogiaa.Pure
open Go.RowKit Go.Proofs.Ytfoapgcnjnogiaa.PA Go.Proofs.Ytfoapgcnjnogiaa.Q Go.Proofs.YtfoapgcnjnogiaaW.PrintWords Go.Proofs.YtfoapgcnjnogiaaW.PrintLast
theorem FnExactProbeFree (L : List S34) (y : S34) (w : g_tubes L) (v : g_tube y) : ∃ k, laws_FnExactProbeFree.f k L y.f0 y.f1 = some true := by
  refine Ev.rounds (g := fun k => laws_FnExactProbeFree.f k L y.f0 y.f1) ?_
  unfold laws_FnExactProbeFree.f
  obtain ⟨m, hm, h⟩ := sz_tubes L w
  refine Ev.bind hm ?_
  rcases h with rfl | ⟨h0, h1, hl, hb⟩
  · exact Ev.pos (by omega) (Ev.now true)
  · have ht := to_tubes L hl (fun x hx => (hb x hx).1)
    refine Ev.neg (by omega) ?_
    rcases sz_tube h0 (by omega) v.1 v.2.1 with h' | ⟨h', h0'⟩
    · simp only [h', Option.bind_some]
      exact Ev.pos (by omega) (Ev.now true)
    · have hl' := len_of (by omega) h0'
      simp only [h', Option.bind_some]
      refine Ev.neg (by omega) (Ev.bind ht (Ev.bind (to_tube _ _ hl') (Ev.bind (spec_free _ _ _) (Ev.bind ht (Ev.bind (to_tube _ _ hl') (Ev.bind (impl_free _ _ _) ?_))))))
      exact Ev.neg (by simp) (Ev.bind ht (Ev.bind (eq_tubes _ (by rw [List.length_map]; omega) (map_ok hb)) (Ev.pos rfl (Ev.bind (to_tube _ _ hl') (Ev.bind (eq_tube _ _ (by rw [List.length_map]; omega)) (Ev.pos rfl (Ev.now true)))))))
theorem FnExactProbeCut (x : S34) (n : Int) (w : g_tube x) (_ : g_int n) : ∃ k, laws_FnExactProbeCut.f k x.f0 x.f1 n = some true := by
  refine Ev.rounds (g := fun k => laws_FnExactProbeCut.f k x.f0 x.f1 n) ?_
  unfold laws_FnExactProbeCut.f
  rcases sz_tube (n := 1048576) (by omega) (by omega) w.1 w.2.1 with h | ⟨h, h0⟩
  · simp only [h, Option.bind_some]
    exact Ev.pos (by omega) (Ev.now true)
  · have hl := len_of (by omega) h0
    have hc := cut_len x.f0 (x.f1.map cv) n
    have he := eq_tube (cut x.f0 (x.f1.map cv) n).1 (cut x.f0 (x.f1.map cv) n).2 (by omega)
    simp only [h, Option.bind_some]
    refine Ev.neg (by omega) (Ev.bind (to_tube _ _ hl) (Ev.bind (spec_cut _ _ _) (Ev.bind (to_tube _ _ hl) (Ev.bind (impl_cut _ _ _) (Ev.bind he (Ev.pos rfl (Ev.bind (to_tube _ _ hl) (Ev.bind (eq_tube _ _ (by rw [List.length_map]; omega)) (Ev.pos rfl ?_)))))))))
    refine Ev.bind (mark_tube _ _ (by rw [List.length_map]; omega) (by omega) (by rw [List.length_map]; omega)) (Ev.neg (by simp; omega) (Ev.bind he ?_))
    have hm := mark_tube (cut x.f0 (x.f1.map cv) n).1 (cut x.f0 (x.f1.map cv) n).2 (K := 1) (by omega) (by omega) (by omega)
    have hh := held_tube (cut x.f0 (x.f1.map cv) n).1 (cut x.f0 (x.f1.map cv) n).2 (K := 1) (by omega) (by omega) (by omega)
    refine Ev.step (f := fun k => (laws_markProbeTube.f k (cut x.f0 (x.f1.map cv) n).1 (cut x.f0 (x.f1.map cv) n).2 1).bind fun a => (laws_heldProbeTube.f k (cut x.f0 (x.f1.map cv) n).1 a.2 1).bind fun b => if b < 0 then some false else if b = a.1 then ((laws_toProbeTube.f k x.f0 x.f1).bind fun p => (impl_ProbeCut.f k p.1 p.2 n).bind fun q => (laws_eqProbeTube.f k q.1 q.2 (cut x.f0 (x.f1.map cv) n).1 (cut x.f0 (x.f1.map cv) n).2).bind fun t => if t = true then ((laws_heldProbeTube.f k (cut x.f0 (x.f1.map cv) n).1 a.2 1).bind fun c => if c < 0 then some false else if c = a.1 then some true else some false) else some false) else some false) (fun k => ?_) ?_
    · simp only [laws_FnExactProbeCut.j0]
      rw [if_neg (by simp)]
    · exact Ev.bind hm (Ev.bind hh (Ev.neg (by omega) (Ev.pos rfl (Ev.bind (to_tube _ _ hl) (Ev.bind (impl_cut _ _ _) (Ev.bind he (Ev.pos rfl (Ev.bind hh (Ev.neg (by omega) (Ev.pos rfl (Ev.now true)))))))))))
end Go.Proofs.Ytfoapgcnjnogiaa.Pure
