/- FnExactProbeBoxOk: the law answers true at every input, and each argument reads as it did. No condition. -/
import Derived.Test.YtfoapgcnjnogiaaRows
import Derived.Test.YtfoapgcnjnogiaaPFnExactProbeBoxOkx1
import Derived.Test.YtfoapgcnjnogiaaPureFnExactProbeBoxOk
import Derived.Test.YtfoapgcnjnogiaaOpens
import Derived.Test.YtfoapgcnjnogiaaGoodFnExactProbeBoxOk
import Derived.WalkKit
import Derived.ProofKit
import Derived.OpenShut
import Derived.ShutString
import Derived.ChangeOld
import Derived.Below
import Derived.SizedLaws
import Derived.Carry
namespace Go.Proofs.Ytfoapgcnjnogiaa.fnExactProbeBoxOk
open Go.ChangeShapes Go.WideShapes Go.ChangeAt Go.RowKit Go.Proofs.Ytfoapgcnjnogiaa.Op Go.Proofs.Ytfoapgcnjnogiaa.PFnExactProbeBoxOk Go.Proofs.YtfoapgcnjnogiaaW.PrintWords
open Go.ChangeMaps (open_string shut_string)
set_option linter.unusedVariables false
theorem own : ownKnob Try.prog.godebug = none := by kernel_rfl
theorem laidOut : laidOutB Try.prog = true := by kernel_rfl
theorem o_int : Opens Try.prog 3 (Kd.int .i64) g_int := Opens.int Try.underlying3 (by kernel_rfl)
theorem o_box : Opens Try.prog 24 kk_box g_box := by
  have c := (OpensAt.cons (o := 0) o_int (OpensAt.cons o_int (OpensAt.cons o_int (OpensAt.cons o_int (OpensAt.cons o_int (OpensAt.one o_int))))))
  have s := Opens.struct c Try.underlying24 (by kernel_rfl) rfl
  exact ⟨s.cells, fun h => s.out h⟩
set_option maxRecDepth 100000 in
theorem lifted (os : Os) (started : os.Started) (H : Type) (enc : TypeId × Value → H) :
    ReturnsInHanded {} Try.checked os 4 .any (Rows.fnExactProbeBoxOkSpec.pre6 enc Try.prog Try.f4 Rows.fnExactProbeBoxOkRow.domain false) (Rows.fnExactProbeBoxOkSpec.post enc Try.prog Try.f4 false true false false) := by
  refine returnsInHanded_of_change_sized (C := Try.checked) own started (by kernel_rfl) Try.func4
    (ChangeSpec.witness6 (enc := enc) (C := Try.checked) false ⟨#[], #[.agg #[.int .i64 0, .int .i64 0, .int .i64 0, .int .i64 0, .int .i64 0, .int .i64 0]], []⟩ 8 (by kernel_rfl) (by kernel_rfl) (by kernel_rfl) (by kernel_rfl)) ?_
  intro W base args ds gs before hval0 hW hcnd hsz0 _
  have hval : ∀ (j : Nat) t v, Try.f4.params[j]? = some t → args[j]? = some v → Value.okWide Try.prog W .any base t v := hval0
  have hW' := hW
  obtain ⟨p, q, hA0, hV, rfl, hfz, hnd⟩ := hW
  have hA : DataW.TrodAll enc Try.prog W 0 (fun _ => true) true Try.f4.params.toList args.toList ds p := hA0
  rw [Try.params4] at hA hval
  obtain ⟨v0, vs0, d0, ds0, p0, q0, hargs, rfl, rfl, h0, r0⟩ := trodAll_cons hA
  obtain ⟨rfl, rfl, rfl⟩ := trodAll_nil r0
  obtain rfl : args = #[v0] := by cases args; simp_all
  obtain ⟨rfl, rfl⟩ := trodVars_none hV
  have k0 := h0
  have lt0 : ∀ x ∈ p0, x.block < W.heap.size := by obtain ⟨m, hm⟩ := k0; exact DataW.trod_lt m _ _ _ hm
  obtain ⟨x0, cs0, rfl, hK0, w0⟩ := o_box.agg Try.underlying24 (hval 0 24 v0 rfl rfl) h0
  obtain ⟨_, _, rfl, rfl, ⟨_, _, rfl, rfl, ⟨_, _, rfl, rfl, ⟨_, _, rfl, rfl, ⟨_, _, rfl, rfl, rfl⟩⟩⟩⟩⟩ := hK0
  have hp := Pure.FnExactProbeBoxOk x0 w0
  clear hA0 hval0 hsz0
  refine (laws_FnExactProbeBoxOk.calls x0.1 x0.2.1 x0.2.2.1 x0.2.2.2.1 x0.2.2.2.2.1 x0.2.2.2.2.2 true W  hp).mono fun e W' ⟨he, bel⟩ => ?_
  subst he
  exact ⟨_, rfl, _, _, _, [], _, [], hW', trodAll_mk1 (shut_bool Try.underlying4 _), (trodAll_cons_mk (Below.trod laidOut (by kernel_rfl) (of_decide_eq_true (by kernel_rfl)) k0 bel lt0) trodAll_mk0), rfl, bel.frame _, fun h => by cases h⟩
theorem over : Rows.fnExactProbeBoxOkRow.holds Try.pinned (OpenSpec.ofChange Rows.fnExactProbeBoxOkSpec) :=
  OpenClaim.holds_of_wide 4 Try.f4 rfl rfl rfl rfl rfl rfl rfl ⟨rfl, rfl, rfl, rfl, rfl⟩ rfl rfl rfl rfl rfl (by kernel_rfl) Try.func4 (by kernel_rfl)
    (of_decide_eq_true (by kernel_rfl)) (by unfold Func.isWrapper; first | (rw [if_pos (by decide +kernel)]; kernel_rfl) | (rw [if_neg (by decide +kernel)]; exact ⟨rfl, rfl⟩))
    (fun os started H enc _ => lifted os started H enc)
end Go.Proofs.Ytfoapgcnjnogiaa.fnExactProbeBoxOk
namespace Go.Proofs.Ytfoapgcnjnogiaa
theorem fnExactProbeBoxOk_holds : Rows.FnExactProbeBoxOkSaid := fnExactProbeBoxOk.over
#print axioms fnExactProbeBoxOk_holds
end Go.Proofs.Ytfoapgcnjnogiaa
