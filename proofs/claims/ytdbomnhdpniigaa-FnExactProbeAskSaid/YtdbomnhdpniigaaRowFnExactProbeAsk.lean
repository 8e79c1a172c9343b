/- FnExactProbeAsk: the law answers true at every input, and each argument reads as it did. No condition. -/
import Derived.Test.YtdbomnhdpniigaaRows
import Derived.Test.YtdbomnhdpniigaaC8
import Derived.Test.YtdbomnhdpniigaaPureAsk
import Derived.Test.YtdbomnhdpniigaaOpens
import Derived.Test.YtdbomnhdpniigaaGood
import Derived.WalkKit
import Derived.ProofKit
import Derived.OpenShut
import Derived.ShutString
import Derived.ChangeOld
import Derived.Below
import Derived.SizedLaws
import Derived.Carry
namespace Go.Proofs.Ytdbomnhdpniigaa.fnExactProbeAsk
open Go.ChangeShapes Go.WideShapes Go.ChangeAt Go.RowKit Go.Proofs.Ytdbomnhdpniigaa.Op Go.Proofs.Ytdbomnhdpniigaa.PA Go.Proofs.YtdbomnhdpniigaaW.PrintWords
open Go.ChangeMaps (open_string shut_string)
set_option linter.unusedVariables false
theorem own : ownKnob Try.prog.godebug = none := by kernel_rfl
theorem laidOut : laidOutB Try.prog = true := by kernel_rfl
theorem o_int : Opens Try.prog 3 (Kd.int .i64) g_int := Opens.int Try.underlying3 (by kernel_rfl)
theorem o_str : Opens Try.prog 9 Kd.string g_str := Opens.string Try.underlying9 (by kernel_rfl)
theorem o_slot : Opens Try.prog 182 k182 g_slot := by
  have c := (OpensAt.cons (o := 0) o_int (OpensAt.cons o_int (OpensAt.cons o_int (OpensAt.cons o_int (OpensAt.cons o_str (OpensAt.one o_int))))))
  have s := Opens.struct c Try.underlying182 (by kernel_rfl) rfl
  exact Opens.iso _ (fun p => ⟨p.1, p.2.1, p.2.2.1, p.2.2.2.1, p.2.2.2.2.1, p.2.2.2.2.2⟩) (fun _ => rfl) (fun p h => h) s
theorem o_slots : Opens Try.prog 145 (Kd.slice 182 k182) g_slots := Opens.slice Try.underlying145 (by kernel_rfl) o_slot
theorem o_cell : Opens Try.prog 147 k147 g_cell := by
  have c := (OpensAt.cons (o := 0) o_int (OpensAt.cons o_int (OpensAt.one o_slots)))
  have s := Opens.struct c Try.underlying147 (by kernel_rfl) rfl
  exact Opens.iso _ (fun p => ⟨p.1, p.2.1, p.2.2⟩) (fun _ => rfl) (fun p h => h) s
theorem o_cells : Opens Try.prog 69 (Kd.slice 147 k147) g_cells := Opens.slice Try.underlying69 (by kernel_rfl) o_cell
theorem o_index : Opens Try.prog 71 kk_index g_index := by
  have c := (OpensAt.one (o := 0) o_cells)
  have s := Opens.struct c Try.underlying71 (by kernel_rfl) rfl
  exact ⟨s.cells, fun h => s.out h⟩
theorem o_box : Opens Try.prog 121 k121 g_box := by
  have c := (OpensAt.cons (o := 0) o_int (OpensAt.cons o_int (OpensAt.cons o_int (OpensAt.cons o_int (OpensAt.cons o_int (OpensAt.one o_int))))))
  have s := Opens.struct c Try.underlying121 (by kernel_rfl) rfl
  exact Opens.iso _ (fun p => ⟨p.1, p.2.1, p.2.2.1, p.2.2.2.1, p.2.2.2.2.1, p.2.2.2.2.2⟩) (fun _ => rfl) (fun p h => h) s
theorem o_boxes : Opens Try.prog 33 (Kd.slice 121 k121) g_boxes := Opens.slice Try.underlying33 (by kernel_rfl) o_box
theorem o_tube : Opens Try.prog 35 kk_tube g_tube := by
  have c := (OpensAt.cons (o := 0) o_str (OpensAt.one o_boxes))
  have s := Opens.struct c Try.underlying35 (by kernel_rfl) rfl
  exact ⟨s.cells, fun h => s.out h⟩
set_option maxRecDepth 100000 in
theorem lifted (os : Os) (started : os.Started) (H : Type) (enc : TypeId × Value → H) :
    ReturnsInHanded {} Try.checked os 8 .any (Rows.fnExactProbeAskSpec.pre6 enc Try.prog Try.f8 Rows.fnExactProbeAskRow.domain false) (Rows.fnExactProbeAskSpec.post enc Try.prog Try.f8 false true false false) := by
  refine returnsInHanded_of_change_sized (C := Try.checked) own started (by kernel_rfl) Try.func8
    (ChangeSpec.witness6 (enc := enc) (C := Try.checked) false ⟨#[], #[.agg #[.slice none 0 0], .agg #[.string ByteArray.empty, .slice none 0 0]], []⟩ 8 (by kernel_rfl) (by kernel_rfl) (by kernel_rfl) (by kernel_rfl)) ?_
  intro W base args ds gs before hval0 hW hcnd hsz0 _
  have hval : ∀ (j : Nat) t v, Try.f8.params[j]? = some t → args[j]? = some v → Value.okWide Try.prog W .any base t v := hval0
  have hW' := hW
  obtain ⟨p, q, hA0, hV, rfl, hfz, hnd⟩ := hW
  have hA : DataW.TrodAll enc Try.prog W 0 (fun _ => true) true Try.f8.params.toList args.toList ds p := hA0
  rw [Try.params8] at hA hval
  obtain ⟨v0, vs0, d0, ds0, p0, q0, hargs, rfl, rfl, h0, r0⟩ := trodAll_cons hA
  obtain ⟨v1, vs1, d1, ds1, p1, q1, rfl, rfl, rfl, h1, r1⟩ := trodAll_cons r0
  obtain ⟨rfl, rfl, rfl⟩ := trodAll_nil r1
  obtain rfl : args = #[v0, v1] := by cases args; simp_all
  obtain ⟨rfl, rfl⟩ := trodVars_none hV
  have k0 := h0
  have lt0 : ∀ x ∈ p0, x.block < W.heap.size := by obtain ⟨m, hm⟩ := k0; exact DataW.trod_lt m _ _ _ hm
  obtain ⟨x0, cs0, rfl, hK0, w0⟩ := o_index.agg Try.underlying71 (hval 0 71 v0 rfl rfl) h0
  obtain ⟨A0_0, c0_0, rfl, hc0_0, hr0_0⟩ := hK0
  have k1 := h1
  have lt1 : ∀ x ∈ p1, x.block < W.heap.size := by obtain ⟨m, hm⟩ := k1; exact DataW.trod_lt m _ _ _ hm
  obtain ⟨x1, cs1, rfl, hK1, w1⟩ := o_tube.agg Try.underlying35 (hval 1 35 v1 rfl rfl) h1
  obtain ⟨_, _, rfl, rfl, ⟨A1_1, c1_1, rfl, hc1_1, hr1_1⟩⟩ := hK1
  obtain ⟨k, hp⟩ := Pure.FnExactProbeAsk x0 x1 w0 w1
  clear hA0 hval0 hsz0
  refine (laws_FnExactProbeAsk.calls k A0_0 c0_0 x0 x1.1 A1_1 c1_1 x1.2 W hr0_0 hc0_0 hr1_1 hc1_1 hp).mono fun e W' ⟨he, bel⟩ => ?_
  subst he
  exact ⟨_, rfl, _, _, _, [], _, [], hW', trodAll_mk1 (shut_bool Try.underlying4 _), (trodAll_cons_mk (Below.trod laidOut (by kernel_rfl) (of_decide_eq_true (by kernel_rfl)) k0 bel lt0) (trodAll_cons_mk (Below.trod laidOut (by kernel_rfl) (of_decide_eq_true (by kernel_rfl)) k1 bel lt1) trodAll_mk0)), rfl, bel.frame _, fun h => by cases h⟩
theorem over : Rows.fnExactProbeAskRow.holds Try.pinned (OpenSpec.ofChange Rows.fnExactProbeAskSpec) :=
  OpenClaim.holds_of_wide 8 Try.f8 rfl rfl rfl rfl rfl rfl rfl ⟨rfl, rfl, rfl, rfl, rfl⟩ rfl rfl rfl rfl rfl (by kernel_rfl) Try.func8 (by kernel_rfl)
    (of_decide_eq_true (by kernel_rfl)) (by unfold Func.isWrapper; first | (rw [if_pos (by decide +kernel)]; kernel_rfl) | (rw [if_neg (by decide +kernel)]; exact ⟨rfl, rfl⟩))
    (fun os started H enc _ => lifted os started H enc)
end Go.Proofs.Ytdbomnhdpniigaa.fnExactProbeAsk
namespace Go.Proofs.Ytdbomnhdpniigaa
theorem fnExactProbeAsk_holds : Rows.FnExactProbeAskSaid := fnExactProbeAsk.over
#print axioms fnExactProbeAsk_holds
end Go.Proofs.Ytdbomnhdpniigaa
