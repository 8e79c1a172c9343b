/- More short forms for the walks. No condition. -/
import Derived.Test.YtjelgpmhbaiipaaGreatDoorLZCx1
namespace Go.Proofs.YtjelgpmhbaiipaaGreatDoor.Z
set_option linter.unusedVariables false
set_option linter.unusedSimpArgs false
open Go.RowKit Go.Proofs.YtjelgpmhbaiipaaGreatDoorW.PrintWords Go.Proofs.YtjelgpmhbaiipaaGreatDoorW.PrintLast Go.Proofs.YtjelgpmhbaiipaaGreatDoorW.PrintMore
theorem rf {α : Type} {d : Kd α} {e base : Nat} {w W : World} {ok : Nat → Prop} {v : Value} {xs : List α} (h : d.R e w base ok v xs) (t : d.R e w base ok v xs → d.R e W base ok v xs := by
    (intro hq_; (repeat (first | (with_reducible exact hq_) | (with_reducible first | apply Kd.R_alloc | apply Kd.R_drewN | apply Kd.R_drew) | refine Kd.R_far ?_ (by (intro _ hk_; first | exact hk_.2 | exact hk_.1.2 | exact hk_.1.1.2 | exact hk_.1.1.1.2)) _)))) : d.R e W base ok v xs := t h
theorem gset {a w : World} {g j : Nat} {u : Value} (h : a.grownBy w (some g)) : a.grownBy (w.setCell ⟨g, j, none⟩ u) (some g) :=
  ⟨h.os, h.tape, h.output, by simpa [World.setCell] using h.size, fun i hi hne => (Below.heap_setCell w ⟨g, j, none⟩ u i (fun e => hne (by rw [e]))).trans (h.block i hi hne)⟩
theorem bst {P : Program} {ops : Array Oper} {Q : Exit → Act → World → Prop} {rest : List Oper} {o : Oper} {a : Act} {w W w1 : World} {g t : Nat} {cs : Array Value} (cs' : Array Value) {t' : TypeId} {p : Tmp} {v : Operand} (hb : Aside0 (w.heap[g]? = some (.cells cs t (0, 0))))
    (h : ∀ w', w'.heap[g]? = some (.cells cs' t (0, 0)) → W.grownBy w' (some g) → wpList P ops Q rest a w') (hgd : o.guard = none := by rfl) (ho : o.op = .store t' (.tmp p) v := by rfl) (hN : o.dst = none := by rfl)
    (hrun : (execOp a.eval o).run P W = .ok .skip w1 := by first | (go_simp; done) | (go_simp; rfl))
    (hw : w.heap[g]? = some (.cells cs t (0, 0)) → w1.heap[g]? = some (.cells cs' t (0, 0)) := by
      (intro hq_; refine m0 ?_; (repeat (first | ((with_reducible refine mend hq_ ?_); rfl) | (with_reducible refine mdrewN _ ?_) | (with_reducible refine mdrew ?_) | (with_reducible refine malloc ?_) | (with_reducible refine mput ?_) | refine mfar (Aside0.out (by assumption)) ?_))))
    (hg : W.grownBy w1 (some g) := by repeat (first | (with_reducible exact World.grownBy.refl _ _) | (with_reducible refine gset ?_))) : wpList P ops Q (o :: rest) a W :=
  store_event hgd ho hN hrun (fun w' e => by subst e; exact h _ (hw hb.out) hg)
theorem bg {g g' : Nat} {o : Obj} {w w1 : World} (h : w.heap[g]? = some o) (hg : w.grownBy w1 (some g')) (hne : Aside0 (g ≠ g')) : Aside0 (w1.heap[g]? = some o) := ⟨blk_grown h hg (fun e => hne.out (by injection e))⟩
theorem rg {α : Type} {d : Kd α} {e base g : Nat} {w w1 : World} {ok : Nat → Prop} {v : Value} {xs : List α} (h : d.R e w base ok v xs) (hg : w.grownBy w1 (some g)) (hok : ∀ k, ok k → k ≠ g) : Aside0 (d.R e w1 base ok v xs) := ⟨Kd.R_grown h hg (fun k hk e => hok k hk (by injection e))⟩
theorem wg {w0 W w1 : World} {g : Nat} (hg : W.grownBy w1 (some g)) (hge : Aside0 (w0.heap.size ≤ g)) (h : Below w0.heap.size w0 W := by
    repeat (first | (with_reducible first | exact HB.out | apply below_alloc | apply pw_below_drewN | apply below_drew1 | refine below_set ?_ (Aside0.out (by assumption)) | refine below_set ?_ (by assumption)) | exact HB.out)) : Aside0 (Below w0.heap.size w0 w1) := ⟨pw_below_grown h (some g) h.size hg (fun k e => by injection e with e; subst e; exact hge.out)⟩
end Go.Proofs.YtjelgpmhbaiipaaGreatDoor.Z
