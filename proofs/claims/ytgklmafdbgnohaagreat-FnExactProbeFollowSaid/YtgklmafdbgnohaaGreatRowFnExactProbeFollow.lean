/- FnExactProbeFollow: the law answers true at every input, and each argument reads as it did. No condition. -/
import Derived.Test.YtgklmafdbgnohaaGreatRows
import Derived.Test.YtgklmafdbgnohaaGreatFR18
import Derived.Test.YtgklmafdbgnohaaGreatFQ20
import Derived.Test.YtgklmafdbgnohaaGreatFOpens21
import Derived.Test.YtgklmafdbgnohaaGreatFP19
import Derived.WalkKit
import Derived.ProofKit
import Derived.OpenShut
import Derived.ShutString
import Derived.ChangeOld
import Derived.Below
import Derived.SizedLaws
import Derived.Carry
namespace Go.Proofs.YtgklmafdbgnohaaGreat.fnExactProbeFollow
open Go.ChangeShapes Go.WideShapes Go.ChangeAt Go.RowKit Go.Proofs.YtgklmafdbgnohaaGreat.Op Go.Proofs.YtgklmafdbgnohaaGreat.PA Go.Proofs.YtgklmafdbgnohaaGreatW.PrintWords
open Go.ChangeMaps (open_string shut_string)
set_option linter.unusedVariables false
set_option linter.unusedSimpArgs false
theorem own : ownKnob Tryz.prog.godebug = none := by kernel_rfl
theorem laidOut : laidOutB Tryz.prog = true := by kernel_rfl
theorem o_int : Opens Tryz.prog 3 (Kd.int .i64) g_int := Opens.int Tryz.underlying3 (by kernel_rfl)
theorem o_str : Opens Tryz.prog 9 Kd.string g_str := Opens.string Tryz.underlying9 (by kernel_rfl)
theorem o_slot : Opens Tryz.prog 184 k184 g_slot := by
  have c := (OpensAt.cons (o := 0) o_int (OpensAt.cons o_int (OpensAt.cons o_int (OpensAt.cons o_int (OpensAt.cons o_str (OpensAt.one o_int))))))
  have s := Opens.struct c Tryz.underlying184 (by kernel_rfl) rfl
  exact Opens.iso _ (fun p => ⟨p.1, p.2.1, p.2.2.1, p.2.2.2.1, p.2.2.2.2.1, p.2.2.2.2.2⟩) (fun _ => rfl) (fun p h => h) s
theorem o_slots : Opens Tryz.prog 131 (Kd.slice 184 k184) g_slots := Opens.slice Tryz.underlying131 (by kernel_rfl) o_slot
theorem o_cell : Opens Tryz.prog 133 k133 g_cell := by
  have c := (OpensAt.cons (o := 0) o_int (OpensAt.cons o_int (OpensAt.one o_slots)))
  have s := Opens.struct c Tryz.underlying133 (by kernel_rfl) rfl
  exact Opens.iso _ (fun p => ⟨p.1, p.2.1, p.2.2⟩) (fun _ => rfl) (fun p h => h) s
theorem o_cells : Opens Tryz.prog 49 (Kd.slice 133 k133) g_cells := Opens.slice Tryz.underlying49 (by kernel_rfl) o_cell
theorem o_index : Opens Tryz.prog 51 kk_index g_index := by
  have c := (OpensAt.one (o := 0) o_cells)
  have s := Opens.struct c Tryz.underlying51 (by kernel_rfl) rfl
  exact ⟨s.cells, fun h => s.out h⟩
theorem o_box : Opens Tryz.prog 163 k163 g_box := by
  have c := (OpensAt.cons (o := 0) o_int (OpensAt.cons o_int (OpensAt.cons o_int (OpensAt.cons o_int (OpensAt.cons o_int (OpensAt.one o_int))))))
  have s := Opens.struct c Tryz.underlying163 (by kernel_rfl) rfl
  exact Opens.iso _ (fun p => ⟨p.1, p.2.1, p.2.2.1, p.2.2.2.1, p.2.2.2.2.1, p.2.2.2.2.2⟩) (fun _ => rfl) (fun p h => h) s
theorem o_boxes : Opens Tryz.prog 53 (Kd.slice 163 k163) g_boxes := Opens.slice Tryz.underlying53 (by kernel_rfl) o_box
theorem o_tube : Opens Tryz.prog 55 k55 g_tube := by
  have c := (OpensAt.cons (o := 0) o_str (OpensAt.one o_boxes))
  have s := Opens.struct c Tryz.underlying55 (by kernel_rfl) rfl
  exact Opens.iso _ (fun p => ⟨p.1, p.2⟩) (fun _ => rfl) (fun p h => h) s
theorem o_tubes : Opens Tryz.prog 52 (Kd.slice 55 k55) g_tubes := Opens.slice Tryz.underlying52 (by kernel_rfl) o_tube
theorem o_bool : Opens Tryz.prog 4 Kd.bool g_bool := Opens.bool Tryz.underlying4 (by kernel_rfl)
theorem o_event : Opens Tryz.prog 57 kk_event g_event := by
  have c := (OpensAt.cons (o := 0) o_bool (OpensAt.one o_tube))
  have s := Opens.struct c Tryz.underlying57 (by kernel_rfl) rfl
  exact ⟨s.cells, fun h => s.out h⟩
set_option maxRecDepth 100000 in
theorem lifted (os : Os) (started : os.Started) (H : Type) (enc : TypeId × Value → H) :
    ReturnsInHanded {} Tryz.checked os 4 .any (Rows.fnExactProbeFollowSpec.pre6 enc Tryz.prog Tryz.f4 Rows.fnExactProbeFollowRow.domain false) (Rows.fnExactProbeFollowSpec.post enc Tryz.prog Tryz.f4 false true false false) := by
  refine returnsInHanded_of_change_sized (C := Tryz.checked) own started (by kernel_rfl) Tryz.func4
    (ChangeSpec.witness6 (enc := enc) (C := Tryz.checked) false ⟨#[], #[.agg #[.slice none 0 0], .slice none 0 0, .agg #[.bool false, .string ByteArray.empty, .slice none 0 0]], []⟩ 8 (by kernel_rfl) (by kernel_rfl) (by kernel_rfl) (by kernel_rfl)) ?_
  intro W base args ds gs before hval0 hW hcnd hsz0 _
  have hval : ∀ (j : Nat) t v, Tryz.f4.params[j]? = some t → args[j]? = some v → Value.okWide Tryz.prog W .any base t v := hval0
  have hW' := hW
  obtain ⟨p, q, hA0, hV, rfl, hfz, hnd⟩ := hW
  have hA : DataW.TrodAll enc Tryz.prog W 0 (fun _ => true) true Tryz.f4.params.toList args.toList ds p := hA0
  rw [Tryz.params4] at hA hval
  obtain ⟨v0, vs0, d0, ds0, p0, q0, hargs, rfl, rfl, h0, r0⟩ := trodAll_cons hA
  obtain ⟨v1, vs1, d1, ds1, p1, q1, rfl, rfl, rfl, h1, r1⟩ := trodAll_cons r0
  obtain ⟨v2, vs2, d2, ds2, p2, q2, rfl, rfl, rfl, h2, r2⟩ := trodAll_cons r1
  obtain ⟨rfl, rfl, rfl⟩ := trodAll_nil r2
  obtain rfl : args = #[v0, v1, v2] := by cases args; simp_all
  obtain ⟨rfl, rfl⟩ := trodVars_none hV
  have k0 := h0
  have lt0 : ∀ x ∈ p0, x.block < W.heap.size := by obtain ⟨m, hm⟩ := k0; exact DataW.trod_lt m _ _ _ hm
  obtain ⟨x0, cs0, rfl, hK0, w0⟩ := o_index.agg Tryz.underlying51 (hval 0 51 v0 rfl rfl) h0
  obtain ⟨A0_0, c0_0, rfl, hc0_0, hr0_0⟩ := hK0
  have k1 := h1
  have lt1 : ∀ x ∈ p1, x.block < W.heap.size := by obtain ⟨m, hm⟩ := k1; exact DataW.trod_lt m _ _ _ hm
  obtain ⟨l1, A1, c1, rfl, hc1, hr1, w1⟩ := o_tubes.sl Tryz.underlying52 (hval 1 52 v1 rfl rfl) h1
  have k2 := h2
  have lt2 : ∀ x ∈ p2, x.block < W.heap.size := by obtain ⟨m, hm⟩ := k2; exact DataW.trod_lt m _ _ _ hm
  obtain ⟨x2, cs2, rfl, hK2, w2⟩ := o_event.agg Tryz.underlying57 (hval 2 57 v2 rfl rfl) h2
  obtain ⟨_, _, rfl, rfl, ⟨_, _, rfl, rfl, ⟨A2_1_1, c2_1_1, rfl, hc2_1_1, hr2_1_1⟩⟩⟩ := hK2
  obtain ⟨k, hp⟩ := Pure.FnExactProbeFollow x0 l1 x2 w0 w1 w2
  clear hA0 hval0 hsz0
  refine (laws_FnExactProbeFollow.calls k A0_0 c0_0 x0 A1 c1 l1 x2.1 x2.2.f0 A2_1_1 c2_1_1 x2.2.f1 W hr0_0 hc0_0 hr1 hc1 hr2_1_1 hc2_1_1 hp).mono fun e W' ⟨he, bel⟩ => ?_
  subst he
  exact ⟨_, rfl, _, _, _, [], _, [], hW', trodAll_mk1 (shut_bool Tryz.underlying4 _), (trodAll_cons_mk (Below.trod laidOut (by kernel_rfl) (of_decide_eq_true (by kernel_rfl)) k0 bel lt0) (trodAll_cons_mk (Below.trod laidOut (by kernel_rfl) (of_decide_eq_true (by kernel_rfl)) k1 bel lt1) (trodAll_cons_mk (Below.trod laidOut (by kernel_rfl) (of_decide_eq_true (by kernel_rfl)) k2 bel lt2) trodAll_mk0))), rfl, bel.frame _, fun h => by cases h⟩
theorem over : Rows.fnExactProbeFollowRow.holds Tryz.pinned (OpenSpec.ofChange Rows.fnExactProbeFollowSpec) :=
  OpenClaim.holds_of_wide 4 Tryz.f4 rfl rfl rfl rfl rfl rfl rfl ⟨rfl, rfl, rfl, rfl, rfl⟩ rfl rfl rfl rfl rfl (by kernel_rfl) Tryz.func4 (by kernel_rfl)
    (of_decide_eq_true (by kernel_rfl)) (by unfold Func.isWrapper; first | (rw [if_pos (by decide +kernel)]; kernel_rfl) | (rw [if_neg (by decide +kernel)]; exact ⟨rfl, rfl⟩))
    (fun os started H enc _ => lifted os started H enc)
end Go.Proofs.YtgklmafdbgnohaaGreat.fnExactProbeFollow
namespace Go.Proofs.YtgklmafdbgnohaaGreat
theorem fnExactProbeFollow_holds : Rows.FnExactProbeFollowSaid := fnExactProbeFollow.over
#print axioms fnExactProbeFollow_holds
end Go.Proofs.YtgklmafdbgnohaaGreat
