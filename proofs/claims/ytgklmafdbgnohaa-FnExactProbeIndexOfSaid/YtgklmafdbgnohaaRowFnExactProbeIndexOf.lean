/- FnExactProbeIndexOf: the law answers true at every input, and each argument reads as it did. No condition. -/
import Derived.Test.YtgklmafdbgnohaaRows
import Derived.Test.YtgklmafdbgnohaaFG13
import Derived.Test.YtgklmafdbgnohaaFQ15
import Derived.Test.YtgklmafdbgnohaaFOpens16
import Derived.Test.YtgklmafdbgnohaaFP14
import Derived.WalkKit
import Derived.ProofKit
import Derived.OpenShut
import Derived.ShutString
import Derived.ChangeOld
import Derived.Below
import Derived.SizedLaws
import Derived.Carry
namespace Go.Proofs.Ytgklmafdbgnohaa.fnExactProbeIndexOf
open Go.ChangeShapes Go.WideShapes Go.ChangeAt Go.RowKit Go.Proofs.Ytgklmafdbgnohaa.Op Go.Proofs.Ytgklmafdbgnohaa.PA Go.Proofs.YtgklmafdbgnohaaW.PrintWords
open Go.ChangeMaps (open_string shut_string)
set_option linter.unusedVariables false
set_option linter.unusedSimpArgs false
theorem own : ownKnob Try.prog.godebug = none := by kernel_rfl
theorem laidOut : laidOutB Try.prog = true := by kernel_rfl
theorem o_str : Opens Try.prog 9 Kd.string g_str := Opens.string Try.underlying9 (by kernel_rfl)
theorem o_int : Opens Try.prog 3 (Kd.int .i64) g_int := Opens.int Try.underlying3 (by kernel_rfl)
theorem o_box : Opens Try.prog 87 k87 g_box := by
  have c := (OpensAt.cons (o := 0) o_int (OpensAt.cons o_int (OpensAt.cons o_int (OpensAt.cons o_int (OpensAt.cons o_int (OpensAt.one o_int))))))
  have s := Opens.struct c Try.underlying87 (by kernel_rfl) rfl
  exact Opens.iso _ (fun p => ⟨p.1, p.2.1, p.2.2.1, p.2.2.2.1, p.2.2.2.2.1, p.2.2.2.2.2⟩) (fun _ => rfl) (fun p h => h) s
theorem o_boxes : Opens Try.prog 36 (Kd.slice 87 k87) g_boxes := Opens.slice Try.underlying36 (by kernel_rfl) o_box
theorem o_tube : Opens Try.prog 38 k38 g_tube := by
  have c := (OpensAt.cons (o := 0) o_str (OpensAt.one o_boxes))
  have s := Opens.struct c Try.underlying38 (by kernel_rfl) rfl
  exact Opens.iso _ (fun p => ⟨p.1, p.2⟩) (fun _ => rfl) (fun p h => h) s
theorem o_tubes : Opens Try.prog 22 (Kd.slice 38 k38) g_tubes := Opens.slice Try.underlying22 (by kernel_rfl) o_tube
set_option maxRecDepth 100000 in
theorem lifted (os : Os) (started : os.Started) (H : Type) (enc : TypeId × Value → H) :
    ReturnsInHanded {} Try.checked os 3 .any (Rows.fnExactProbeIndexOfSpec.pre6 enc Try.prog Try.f3 Rows.fnExactProbeIndexOfRow.domain false) (Rows.fnExactProbeIndexOfSpec.post enc Try.prog Try.f3 false true false false) := by
  refine returnsInHanded_of_change_sized (C := Try.checked) own started (by kernel_rfl) Try.func3
    (ChangeSpec.witness6 (enc := enc) (C := Try.checked) false ⟨#[], #[.slice none 0 0], []⟩ 8 (by kernel_rfl) (by kernel_rfl) (by kernel_rfl) (by kernel_rfl)) ?_
  intro W base args ds gs before hval0 hW hcnd hsz0 _
  have hval : ∀ (j : Nat) t v, Try.f3.params[j]? = some t → args[j]? = some v → Value.okWide Try.prog W .any base t v := hval0
  have hW' := hW
  obtain ⟨p, q, hA0, hV, rfl, hfz, hnd⟩ := hW
  have hA : DataW.TrodAll enc Try.prog W 0 (fun _ => true) true Try.f3.params.toList args.toList ds p := hA0
  rw [Try.params3] at hA hval
  obtain ⟨v0, vs0, d0, ds0, p0, q0, hargs, rfl, rfl, h0, r0⟩ := trodAll_cons hA
  obtain ⟨rfl, rfl, rfl⟩ := trodAll_nil r0
  obtain rfl : args = #[v0] := by cases args; simp_all
  obtain ⟨rfl, rfl⟩ := trodVars_none hV
  have k0 := h0
  have lt0 : ∀ x ∈ p0, x.block < W.heap.size := by obtain ⟨m, hm⟩ := k0; exact DataW.trod_lt m _ _ _ hm
  obtain ⟨l0, A0, c0, rfl, hc0, hr0, w0⟩ := o_tubes.sl Try.underlying22 (hval 0 22 v0 rfl rfl) h0
  obtain ⟨k, hp⟩ := Pure.FnExactProbeIndexOf l0 w0
  clear hA0 hval0 hsz0
  refine (laws_FnExactProbeIndexOf.calls k A0 c0 l0 W hr0 hc0 hp).mono fun e W' ⟨he, bel⟩ => ?_
  subst he
  exact ⟨_, rfl, _, _, _, [], _, [], hW', trodAll_mk1 (shut_bool Try.underlying4 _), (trodAll_cons_mk (Below.trod laidOut (by kernel_rfl) (of_decide_eq_true (by kernel_rfl)) k0 bel lt0) trodAll_mk0), rfl, bel.frame _, fun h => by cases h⟩
theorem over : Rows.fnExactProbeIndexOfRow.holds Try.pinned (OpenSpec.ofChange Rows.fnExactProbeIndexOfSpec) :=
  OpenClaim.holds_of_wide 3 Try.f3 rfl rfl rfl rfl rfl rfl rfl ⟨rfl, rfl, rfl, rfl, rfl⟩ rfl rfl rfl rfl rfl (by kernel_rfl) Try.func3 (by kernel_rfl)
    (of_decide_eq_true (by kernel_rfl)) (by unfold Func.isWrapper; first | (rw [if_pos (by decide +kernel)]; kernel_rfl) | (rw [if_neg (by decide +kernel)]; exact ⟨rfl, rfl⟩))
    (fun os started H enc _ => lifted os started H enc)
end Go.Proofs.Ytgklmafdbgnohaa.fnExactProbeIndexOf
namespace Go.Proofs.Ytgklmafdbgnohaa
theorem fnExactProbeIndexOf_holds : Rows.FnExactProbeIndexOfSaid := fnExactProbeIndexOf.over
#print axioms fnExactProbeIndexOf_holds
end Go.Proofs.Ytgklmafdbgnohaa
