/- A contract of the function laws_toProbeTube. (Began as a print of the kit's tool.) -/
import Derived.Test.YtfoapgcnjnogiaaPAd
import Derived.Test.YtfoapgcnjnogiaaCx
import Derived.Test.YtfoapgcnjnogiaaC54
namespace Go.Proofs.Ytfoapgcnjnogiaa.PA
open Go.RowKit Go.Proofs.YtfoapgcnjnogiaaW.PrintWords Go.Proofs.YtfoapgcnjnogiaaW.PrintLast Go.Proofs.YtfoapgcnjnogiaaW.PrintMore Go.Proofs.Ytfoapgcnjnogiaa.Z
attribute [local go_sem] max2_int min2_int max_two min_two max_three min_three max_four min_four
set_option linter.unusedVariables false
set_option linter.unusedSimpArgs false
set_option maxHeartbeats 8000000 in
set_option maxRecDepth 100000 in
theorem laws_toProbeTube.calls (k : Nat) (a0_0 : ByteArray) (A0_1 : Option Addr) (c0_1 : Nat) (l0_1 : List (S24)) (r1 : ByteArray) (r2 : List (S26)) (w : World) (hr0_1 : Kd.C k24 w A0_1 l0_1.length l0_1) (hc0_1 : l0_1.length ≤ c0_1) (h : laws_toProbeTube.f k a0_0 l0_1 = some (r1, r2)) :
    Calls Try.prog 22 #[.agg #[.string a0_0, .slice A0_1 l0_1.length c0_1]] w fun e w' => ∃ v1_ : Value, e = .returned (.agg #[.string r1, v1_]) ∧ Kd.R k26 26 w' w.heap.size (fun _ => True) v1_ r2 ∧ Below w.heap.size w w' := by
  have hu34 := Try.underlying34
  have hu39 := Try.underlying39
  have HR0_1 := Aside0.mk hr0_1
  have HC0_1 := Aside0.mk hc0_1
  clear hr0_1 hc0_1
  have HB := ra (Below.refl w.heap.size w)
  have H : ((laws_toProbeBoxS.f k l0_1).bind fun t194 => (some (a0_0, t194))) = some (r1, r2) := h
  clear h
  obtain ⟨t194, A2, H⟩ := bo H
  simp only [Option.some.injEq, Prod.mk.injEq] at H
  obtain ⟨rfl, rfl⟩ := H
  go_enter Try.func22, Try.ntmps22
  go_wp2_with (first | ((with_reducible refine gate_dst (N := 1) rfl ?_); refine be 1 #[.string a0_0, .slice A0_1 l0_1.length c0_1] 34 ?_; intro gb191 hg w3 hbox hb; have n0 := bs hb; have n1 := ra (hbox); have n2 := bz (w0 := w) hg; have n3 := bz (w0 := w) hg; clear HB; have HB := n0; have BK191 := n1; have GW191 := n2; have GE191 := n3; clear n0 n1 n2 n3; clear hb hbox hg) | ((with_reducible refine gate_dst (N := 2) rfl ?_); refine be 2 #[.string (⟨#[]⟩ : ByteArray), .slice none 0 0] 39 ?_; intro gb192 hg w4 hbox hb; have n0 := bb (bk BK191) hb; have n1 := bs hb; have n2 := ra (hbox); have n3 := bz (w0 := w) hg; have n4 := bz (w0 := w) hg; have n5 := bn hg (bk BK191); have n6 := bm hg (bk BK191); clear BK191 HB; have BK191 := n0; have HB := n1; have BK192 := n2; have GW192 := n3; have GE192 := n4; have NB191_192 := n5; have NB192_191 := n6; clear n0 n1 n2 n3 n4 n5 n6; clear hb hbox hg) | ((with_reducible refine gate_dst (N := 3) rfl ?_); refine be 3 #[.string (⟨#[]⟩ : ByteArray), .slice none 0 0] 39 ?_; intro gb193 hg w5 hbox hb; have n0 := bb (bk BK191) hb; have n1 := bb (bk BK192) hb; have n2 := bs hb; have n3 := ra (hbox); have n4 := bz (w0 := w) hg; have n5 := bz (w0 := w) hg; have n6 := bn hg (bk BK191); have n7 := bm hg (bk BK191); have n8_ := bn hg (bk BK192); have n9_ := bm hg (bk BK192); clear BK191 BK192 HB; have BK191 := n0; have BK192 := n1; have HB := n2; have BK193 := n3; have GW193 := n4; have GE193 := n5; have NB191_193 := n6; have NB193_191 := n7; have NB192_193 := n8_; have NB193_192 := n9_; clear n0 n1 n2 n3 n4 n5 n6 n7 n8_ n9_; clear hb hbox hg; have hnb6 := NB191_192.out; have hnc6 := NB192_191.out; have hnb7 := NB191_193.out; have hnc7 := NB193_191.out; obtain ⟨hcz8_0, hcz8_1, hfz8_0, hfz8_1⟩ := zc2 BK191; have hnb9 := NB193_192.out; have hnc9 := NB192_193.out; obtain ⟨hcz10_0, hcz10_1, hfz10_0, hfz10_1⟩ := zc2 BK193) | ((with_reducible refine gate_callee (f := 54) rfl ?_); refine gl (some 9) Try.func54 #[.slice A0_1 l0_1.length c0_1] ?_; (with_reducible refine (laws_toProbeBoxS.calls k _ _ l0_1 t194 _ ?side1 ?side2 A2.out).mono ?_); (case side1 => exact Kd.C_below HR0_1.out bq); (case side2 => exact HC0_1.out); rintro e w11 ⟨v195, rfl, ho0, hb⟩; refine ⟨_, rfl, ?_⟩; have n0 := ra (Kd.R_lower ho0 (below_size bq)); have n1 := bb (bk BK191) hb; have n2 := bb (bk BK192) hb; have n3 := bb (o := .cells #[.string a0_0, .slice none 0 0] 39 (0, 0)) (bp BK193) hb; have n4 := bs hb; clear BK191 BK192 BK193 HB; have HO196 := n0; have BK191 := n1; have BK192 := n2; have BK193 := n3; have HB := n4; clear n0 n1 n2 n3 n4; (try clear hb); (try clear hb2); (try clear hk); (try clear hi); (try clear ho0); obtain ⟨Ao12, co12, eo12⟩ := Kd.R_slice HO196.out; subst eo12; obtain ⟨hcz13_0, hcz13_1, hfz13_0, hfz13_1⟩ := zc2 BK193; obtain ⟨hcz14_0, hcz14_1, hfz14_0, hfz14_1⟩ := zc2 BK192))
  refine bodyPost_ret (results_cell_row rfl _ _ gb192 39 #[.string a0_0, .slice Ao12 t194.length co12] (0, 0) _ rfl (bp BK192) Try.underlying39 rfl (by kernel_rfl)) rfl ?_
  exact ⟨_, re, by (with_reducible repeat (first | apply Kd.R_alloc | apply Kd.R_drewN | apply Kd.R_drew)); exact Kd.R_mono (Kd.R_far (p := ⟨gb192, 1, none⟩) (Kd.R_far (p := ⟨gb192, 0, none⟩) (Kd.R_far (p := ⟨gb193, 1, none⟩) (Kd.R_types (Kd.R_types HO196.out BK193.out (by decide)) BK192.out (by decide)) (fun _ hk => hk.1.2) (.slice Ao12 t194.length co12)) (fun _ hk => hk.2) (.string a0_0)) (fun _ hk => hk.2) (.slice Ao12 t194.length co12)) (fun _ hk => trivial), bq⟩
end Go.Proofs.Ytfoapgcnjnogiaa.PA
