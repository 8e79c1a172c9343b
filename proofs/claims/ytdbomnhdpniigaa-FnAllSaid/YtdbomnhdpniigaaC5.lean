/- Contracts of the functions laws_FnAll. (Began as a print of the kit's tool.) -/
import Derived.Test.YtdbomnhdpniigaaPAd
import Derived.Test.YtdbomnhdpniigaaCx
import Derived.Test.YtdbomnhdpniigaaGDrawC
import Derived.Test.YtdbomnhdpniigaaGAll
import Derived.Test.YtdbomnhdpniigaaGAllS
import Derived.Test.YtdbomnhdpniigaaGHappen
import Derived.Test.YtdbomnhdpniigaaGSky
import Derived.Test.YtdbomnhdpniigaaGSkyS
import Derived.Test.YtdbomnhdpniigaaGWith
import Derived.Test.YtdbomnhdpniigaaGWith
import Derived.Test.YtdbomnhdpniigaaGHappen
namespace Go.Proofs.Ytdbomnhdpniigaa.PA
open Go.RowKit Go.Proofs.YtdbomnhdpniigaaW.PrintWords Go.Proofs.YtdbomnhdpniigaaW.PrintLast Go.Proofs.YtdbomnhdpniigaaW.PrintMore Go.Proofs.Ytdbomnhdpniigaa.Z
attribute [local go_sem] max2_int min2_int max_two min_two max_three min_three max_four min_four
set_option linter.unusedVariables false
set_option linter.unusedSimpArgs false
set_option maxHeartbeats 8000000 in
set_option maxRecDepth 100000 in
theorem laws_FnAll.calls (k : Nat) (A0 : Option Addr) (c0 : Nat) (l0 : List Int) (w : World) (hr0 : Kd.C (Kd.int .u8) w A0 l0.length l0) (hc0 : l0.length ≤ c0) (h : laws_FnAll.f k l0 = some true) :
  Calls Try.prog 5 #[.slice A0 l0.length c0] w fun e w' => e = .returned (.bool true) ∧ Below w.heap.size w w' := by
 have hu40 := Try.underlying40
 have hu54 := Try.underlying54
 have HR0 := Aside0.mk hr0
 have HC0 := Aside0.mk hc0
 clear hr0 hc0
 have HB := ra (Below.refl w.heap.size w)
 have H : (if (l0.length : Int) > 1048576 then (some true) else ((spec_DrawProbeAll.f k l0).bind fun t687 => ((impl_ProbeAll.f k t687).bind fun t690 => ((spec_ProbeAll.f k t687).bind fun t693 => ((laws_wClashes.f k t690 t693).bind fun t696 => (if t696 = true then ((impl_ProbeSkyOk.f k t687).bind fun t697 => ((spec_ProbeSkyOk.f k t687).bind fun t698 => (laws_FnAll.j0 k t687 t690 (t697 != t698)))) else (laws_FnAll.j0 k t687 t690 true))))))) = some true := h
 clear h
 by_cases c2 : (l0.length : Int) > 1048576
 ·rw [if_pos c2] at H
  have c2b0 : decide (1048576 < (l0.length : Int)) = true := decide_eq_true c2
  have c2b1 : decide (1048576 < l0.length) = true := decide_eq_true (by omega)
  clear c2 H
  go_enter Try.func5, Try.ntmps5
  go_wp2
  repeat (go_quiet (fail); try go_wp2)
  go_ret
  exact ⟨re, bq⟩
 ·rw [if_neg c2] at H
  have c2b0 : decide (1048576 < (l0.length : Int)) = false := decide_eq_false c2
  have c2b1 : decide (1048576 < l0.length) = false := decide_eq_false (by omega)
  clear c2
  obtain ⟨t687, A3, H⟩ := bo H
  obtain ⟨t690, A4, H⟩ := bo H
  have HC5 := Aside0.mk H
  clear H
  go_enter Try.func5, Try.ntmps5
  go_upto_region 5 with (first | (go_at_call 24; (with_reducible refine (spec_DrawProbeAll.calls k _ _ l0 t687 _ ?side1 ?side2 A3.out).mono ?_); (case side1 => repeat (first | exact HR0.out | (with_reducible refine Kd.C_alloc ?_ _) | (with_reducible refine Kd.C_drewN ?_ _) | (with_reducible refine Kd.C_drew ?_))); (case side2 => exact HC0.out); rintro e w6 ⟨v688, rfl, ho0, hb⟩; have _ := ra (Kd.S_lower ho0 (below_size bq)); have _ := bs hb; clear HB; rename_i HO689 HB; (try clear hb); (try clear hb2); (try clear hk); (try clear hi); (try clear ho0); obtain ⟨Ao7, co7, eo7⟩ := Kd.S_slice HO689.out; subst eo7) | (go_at_call 12; (with_reducible refine (impl_ProbeAll.calls k _ _ t687 t690 _ ?side1 ?side2 A4.out).mono ?_); (case side1 => repeat (first | exact (Kd.S_reads' HO689.out).2.2 | (with_reducible refine Kd.C_alloc ?_ _) | (with_reducible refine Kd.C_drewN ?_ _) | (with_reducible refine Kd.C_drew ?_))); (case side2 => exact (Kd.S_reads' HO689.out).2.1); rintro e w8 ⟨v691, rfl, ho0, hb⟩; have _ := ra (Kd.S_below (by (with_reducible repeat (first | apply Kd.S_alloc | apply Kd.S_drewN | apply Kd.S_drew)); exact HO689.out) hb); have _ := ra (Kd.R_lower ho0 (below_size bq)); have _ := bs hb; clear HO689 HB; rename_i HO689 HO692 HB; (try clear hb); (try clear hb2); (try clear hk); (try clear hi); (try clear ho0)))
  repeat (go_quiet (first | (go_at_call 24; (with_reducible refine (spec_DrawProbeAll.calls k _ _ l0 t687 _ ?side1 ?side2 A3.out).mono ?_); (case side1 => repeat (first | exact HR0.out | (with_reducible refine Kd.C_alloc ?_ _) | (with_reducible refine Kd.C_drewN ?_ _) | (with_reducible refine Kd.C_drew ?_))); (case side2 => exact HC0.out); rintro e w6 ⟨v688, rfl, ho0, hb⟩; have _ := ra (Kd.S_lower ho0 (below_size bq)); have _ := bs hb; clear HB; rename_i HO689 HB; (try clear hb); (try clear hb2); (try clear hk); (try clear hi); (try clear ho0); obtain ⟨Ao7, co7, eo7⟩ := Kd.S_slice HO689.out; subst eo7) | (go_at_call 12; (with_reducible refine (impl_ProbeAll.calls k _ _ t687 t690 _ ?side1 ?side2 A4.out).mono ?_); (case side1 => repeat (first | exact (Kd.S_reads' HO689.out).2.2 | (with_reducible refine Kd.C_alloc ?_ _) | (with_reducible refine Kd.C_drewN ?_ _) | (with_reducible refine Kd.C_drew ?_))); (case side2 => exact (Kd.S_reads' HO689.out).2.1); rintro e w8 ⟨v691, rfl, ho0, hb⟩; have _ := ra (Kd.S_below (by (with_reducible repeat (first | apply Kd.S_alloc | apply Kd.S_drewN | apply Kd.S_drew)); exact HO689.out) hb); have _ := ra (Kd.R_lower ho0 (below_size bq)); have _ := bs hb; clear HO689 HB; rename_i HO689 HO692 HB; (try clear hb); (try clear hb2); (try clear hk); (try clear hi); (try clear ho0))); go_upto_region 5 with (first | (go_at_call 24; (with_reducible refine (spec_DrawProbeAll.calls k _ _ l0 t687 _ ?side1 ?side2 A3.out).mono ?_); (case side1 => repeat (first | exact HR0.out | (with_reducible refine Kd.C_alloc ?_ _) | (with_reducible refine Kd.C_drewN ?_ _) | (with_reducible refine Kd.C_drew ?_))); (case side2 => exact HC0.out); rintro e w6 ⟨v688, rfl, ho0, hb⟩; have _ := ra (Kd.S_lower ho0 (below_size bq)); have _ := bs hb; clear HB; rename_i HO689 HB; (try clear hb); (try clear hb2); (try clear hk); (try clear hi); (try clear ho0); obtain ⟨Ao7, co7, eo7⟩ := Kd.S_slice HO689.out; subst eo7) | (go_at_call 12; (with_reducible refine (impl_ProbeAll.calls k _ _ t687 t690 _ ?side1 ?side2 A4.out).mono ?_); (case side1 => repeat (first | exact (Kd.S_reads' HO689.out).2.2 | (with_reducible refine Kd.C_alloc ?_ _) | (with_reducible refine Kd.C_drewN ?_ _) | (with_reducible refine Kd.C_drew ?_))); (case side2 => exact (Kd.S_reads' HO689.out).2.1); rintro e w8 ⟨v691, rfl, ho0, hb⟩; have _ := ra (Kd.S_below (by (with_reducible repeat (first | apply Kd.S_alloc | apply Kd.S_drewN | apply Kd.S_drew)); exact HO689.out) hb); have _ := ra (Kd.R_lower ho0 (below_size bq)); have _ := bs hb; clear HO689 HB; rename_i HO689 HO692 HB; (try clear hb); (try clear hb2); (try clear hk); (try clear hi); (try clear ho0))))
  (try simp only [Act.put, List.setIfInBounds_toArray, List.set_cons_zero, List.set_cons_succ])
  go_cut [28] (fun v28 wc => ∃ (kq : Nat) (x28_4 : Bool), v28 = .bool x28_4 ∧ Aside0 (laws_FnAll.j0 kq t687 t690 x28_4 = some true) ∧ Aside0 (kq ≤ k) ∧ Aside0 (Kd.S k40 40 wc w.heap.size (fun _ => True) (.slice Ao7 t687.length co7) t687) ∧ Aside0 (Kd.R k49 49 wc w.heap.size (fun _ => True) v691 t690) ∧ Aside0 (Below w.heap.size w wc))
  case first =>
   have H := HC5.out
   clear HC5
   obtain ⟨t693, A9, H⟩ := bo H
   obtain ⟨t696, A10, H⟩ := bo H
   by_cases c11 : t696 = true
   ·subst c11
    replace H := it H rfl
    obtain ⟨t697, A12, H⟩ := bo H
    obtain ⟨t698, A13, H⟩ := bo H
    have H' := Aside0.mk H
    clear H
    go_wp2_with (first | (go_at_call 10; (with_reducible refine (spec_ProbeAll.calls k _ _ t687 t693 _ ?side1 ?side2 A9.out).mono ?_); (case side1 => repeat (first | exact (Kd.S_reads' HO689.out).2.2 | (with_reducible refine Kd.C_alloc ?_ _) | (with_reducible refine Kd.C_drewN ?_ _) | (with_reducible refine Kd.C_drew ?_))); (case side2 => exact (Kd.S_reads' HO689.out).2.1); rintro e w14 ⟨v694, rfl, ho0, hb⟩; have _ := ra (Kd.S_below (by (with_reducible repeat (first | apply Kd.S_alloc | apply Kd.S_drewN | apply Kd.S_drew)); exact HO689.out) hb); have _ := ra (Kd.R_elder' (rq HO692) (Kd.R_base ho0) hb); have _ := ra (Kd.R_lower (Kd.R_new' ho0 (Kd.R_lt (rq HO692))) (below_size bq)); have _ := bs hb; clear HO689 HO692 HB; rename_i HO689 HO692 HO695 HB; (try clear hb); (try clear hb2); (try clear hk); (try clear hi); (try clear ho0); obtain ⟨Ao15, co15, eo15⟩ := Kd.R_slice HO692.out; subst eo15; obtain ⟨Ao16, co16, eo16⟩ := Kd.R_slice HO695.out; subst eo16) | (go_at_call 25; (with_reducible refine (laws_wClashes.calls k _ _ t690 _ _ t693 true _ ?side1 ?side2 ?side3 ?side4 A10.out).mono ?_); (case side1 => exact sr HO692); (case side2 => exact (Kd.R_reads' HO692.out).2.1); (case side3 => exact sr HO695); (case side4 => exact (Kd.R_reads' HO695.out).2.1); rintro e w' ⟨rfl, ⟨nd, rfl⟩⟩; (try first | exact ⟨rfl, _, World.drewN_drewN _ _ _⟩ | exact ⟨rfl, _, Eq.trans (World.drewN_drewN _ _ _) (congrArg (World.drewN _) (Nat.add_assoc _ _ _))⟩)) | (go_at_call 26; (with_reducible refine (impl_ProbeSkyOk.calls k _ _ t687 t697 _ ?side1 ?side2 A12.out).mono ?_); (case side1 => repeat (first | exact (Kd.S_reads' HO689.out).2.2 | (with_reducible refine Kd.C_alloc ?_ _) | (with_reducible refine Kd.C_drewN ?_ _) | (with_reducible refine Kd.C_drew ?_))); (case side2 => exact (Kd.S_reads' HO689.out).2.1); rintro e w17 ⟨rfl, hb⟩; have _ := ra (Kd.S_below (by (with_reducible repeat (first | apply Kd.S_alloc | apply Kd.S_drewN | apply Kd.S_drew)); exact HO689.out) hb); have _ := ra (Kd.R_below (rq HO692) hb); have _ := ra (Kd.R_below (rq HO695) hb); have _ := bs hb; clear HO689 HO692 HO695 HB; rename_i HO689 HO692 HO695 HB; (try clear hb); (try clear hb2); (try clear hk); (try clear hi)) | (go_at_call 27; (with_reducible refine (spec_ProbeSkyOk.calls k _ _ t687 t698 _ ?side1 ?side2 A13.out).mono ?_); (case side1 => repeat (first | exact (Kd.S_reads' HO689.out).2.2 | (with_reducible refine Kd.C_alloc ?_ _) | (with_reducible refine Kd.C_drewN ?_ _) | (with_reducible refine Kd.C_drew ?_))); (case side2 => exact (Kd.S_reads' HO689.out).2.1); rintro e w18 ⟨rfl, hb⟩; have _ := ra (Kd.S_below (by (with_reducible repeat (first | apply Kd.S_alloc | apply Kd.S_drewN | apply Kd.S_drew)); exact HO689.out) hb); have _ := ra (Kd.R_below (rq HO692) hb); have _ := ra (Kd.R_below (rq HO695) hb); have _ := bs hb; clear HO689 HO692 HO695 HB; rename_i HO689 HO692 HO695 HB; (try clear hb); (try clear hb2); (try clear hk); (try clear hi)))
    repeat (go_quiet (first | (go_at_call 10; (with_reducible refine (spec_ProbeAll.calls k _ _ t687 t693 _ ?side1 ?side2 A9.out).mono ?_); (case side1 => repeat (first | exact (Kd.S_reads' HO689.out).2.2 | (with_reducible refine Kd.C_alloc ?_ _) | (with_reducible refine Kd.C_drewN ?_ _) | (with_reducible refine Kd.C_drew ?_))); (case side2 => exact (Kd.S_reads' HO689.out).2.1); rintro e w14 ⟨v694, rfl, ho0, hb⟩; have _ := ra (Kd.S_below (by (with_reducible repeat (first | apply Kd.S_alloc | apply Kd.S_drewN | apply Kd.S_drew)); exact HO689.out) hb); have _ := ra (Kd.R_elder' (rq HO692) (Kd.R_base ho0) hb); have _ := ra (Kd.R_lower (Kd.R_new' ho0 (Kd.R_lt (rq HO692))) (below_size bq)); have _ := bs hb; clear HO689 HO692 HB; rename_i HO689 HO692 HO695 HB; (try clear hb); (try clear hb2); (try clear hk); (try clear hi); (try clear ho0); obtain ⟨Ao15, co15, eo15⟩ := Kd.R_slice HO692.out; subst eo15; obtain ⟨Ao16, co16, eo16⟩ := Kd.R_slice HO695.out; subst eo16) | (go_at_call 25; (with_reducible refine (laws_wClashes.calls k _ _ t690 _ _ t693 true _ ?side1 ?side2 ?side3 ?side4 A10.out).mono ?_); (case side1 => exact sr HO692); (case side2 => exact (Kd.R_reads' HO692.out).2.1); (case side3 => exact sr HO695); (case side4 => exact (Kd.R_reads' HO695.out).2.1); rintro e w' ⟨rfl, ⟨nd, rfl⟩⟩; (try first | exact ⟨rfl, _, World.drewN_drewN _ _ _⟩ | exact ⟨rfl, _, Eq.trans (World.drewN_drewN _ _ _) (congrArg (World.drewN _) (Nat.add_assoc _ _ _))⟩)) | (go_at_call 26; (with_reducible refine (impl_ProbeSkyOk.calls k _ _ t687 t697 _ ?side1 ?side2 A12.out).mono ?_); (case side1 => repeat (first | exact (Kd.S_reads' HO689.out).2.2 | (with_reducible refine Kd.C_alloc ?_ _) | (with_reducible refine Kd.C_drewN ?_ _) | (with_reducible refine Kd.C_drew ?_))); (case side2 => exact (Kd.S_reads' HO689.out).2.1); rintro e w17 ⟨rfl, hb⟩; have _ := ra (Kd.S_below (by (with_reducible repeat (first | apply Kd.S_alloc | apply Kd.S_drewN | apply Kd.S_drew)); exact HO689.out) hb); have _ := ra (Kd.R_below (rq HO692) hb); have _ := ra (Kd.R_below (rq HO695) hb); have _ := bs hb; clear HO689 HO692 HO695 HB; rename_i HO689 HO692 HO695 HB; (try clear hb); (try clear hb2); (try clear hk); (try clear hi)) | (go_at_call 27; (with_reducible refine (spec_ProbeSkyOk.calls k _ _ t687 t698 _ ?side1 ?side2 A13.out).mono ?_); (case side1 => repeat (first | exact (Kd.S_reads' HO689.out).2.2 | (with_reducible refine Kd.C_alloc ?_ _) | (with_reducible refine Kd.C_drewN ?_ _) | (with_reducible refine Kd.C_drew ?_))); (case side2 => exact (Kd.S_reads' HO689.out).2.1); rintro e w18 ⟨rfl, hb⟩; have _ := ra (Kd.S_below (by (with_reducible repeat (first | apply Kd.S_alloc | apply Kd.S_drewN | apply Kd.S_drew)); exact HO689.out) hb); have _ := ra (Kd.R_below (rq HO692) hb); have _ := ra (Kd.R_below (rq HO695) hb); have _ := bs hb; clear HO689 HO692 HO695 HB; rename_i HO689 HO692 HO695 HB; (try clear hb); (try clear hb2); (try clear hk); (try clear hi))); try go_wp2_with (first | (go_at_call 10; (with_reducible refine (spec_ProbeAll.calls k _ _ t687 t693 _ ?side1 ?side2 A9.out).mono ?_); (case side1 => repeat (first | exact (Kd.S_reads' HO689.out).2.2 | (with_reducible refine Kd.C_alloc ?_ _) | (with_reducible refine Kd.C_drewN ?_ _) | (with_reducible refine Kd.C_drew ?_))); (case side2 => exact (Kd.S_reads' HO689.out).2.1); rintro e w14 ⟨v694, rfl, ho0, hb⟩; have _ := ra (Kd.S_below (by (with_reducible repeat (first | apply Kd.S_alloc | apply Kd.S_drewN | apply Kd.S_drew)); exact HO689.out) hb); have _ := ra (Kd.R_elder' (rq HO692) (Kd.R_base ho0) hb); have _ := ra (Kd.R_lower (Kd.R_new' ho0 (Kd.R_lt (rq HO692))) (below_size bq)); have _ := bs hb; clear HO689 HO692 HB; rename_i HO689 HO692 HO695 HB; (try clear hb); (try clear hb2); (try clear hk); (try clear hi); (try clear ho0); obtain ⟨Ao15, co15, eo15⟩ := Kd.R_slice HO692.out; subst eo15; obtain ⟨Ao16, co16, eo16⟩ := Kd.R_slice HO695.out; subst eo16) | (go_at_call 25; (with_reducible refine (laws_wClashes.calls k _ _ t690 _ _ t693 true _ ?side1 ?side2 ?side3 ?side4 A10.out).mono ?_); (case side1 => exact sr HO692); (case side2 => exact (Kd.R_reads' HO692.out).2.1); (case side3 => exact sr HO695); (case side4 => exact (Kd.R_reads' HO695.out).2.1); rintro e w' ⟨rfl, ⟨nd, rfl⟩⟩; (try first | exact ⟨rfl, _, World.drewN_drewN _ _ _⟩ | exact ⟨rfl, _, Eq.trans (World.drewN_drewN _ _ _) (congrArg (World.drewN _) (Nat.add_assoc _ _ _))⟩)) | (go_at_call 26; (with_reducible refine (impl_ProbeSkyOk.calls k _ _ t687 t697 _ ?side1 ?side2 A12.out).mono ?_); (case side1 => repeat (first | exact (Kd.S_reads' HO689.out).2.2 | (with_reducible refine Kd.C_alloc ?_ _) | (with_reducible refine Kd.C_drewN ?_ _) | (with_reducible refine Kd.C_drew ?_))); (case side2 => exact (Kd.S_reads' HO689.out).2.1); rintro e w17 ⟨rfl, hb⟩; have _ := ra (Kd.S_below (by (with_reducible repeat (first | apply Kd.S_alloc | apply Kd.S_drewN | apply Kd.S_drew)); exact HO689.out) hb); have _ := ra (Kd.R_below (rq HO692) hb); have _ := ra (Kd.R_below (rq HO695) hb); have _ := bs hb; clear HO689 HO692 HO695 HB; rename_i HO689 HO692 HO695 HB; (try clear hb); (try clear hb2); (try clear hk); (try clear hi)) | (go_at_call 27; (with_reducible refine (spec_ProbeSkyOk.calls k _ _ t687 t698 _ ?side1 ?side2 A13.out).mono ?_); (case side1 => repeat (first | exact (Kd.S_reads' HO689.out).2.2 | (with_reducible refine Kd.C_alloc ?_ _) | (with_reducible refine Kd.C_drewN ?_ _) | (with_reducible refine Kd.C_drew ?_))); (case side2 => exact (Kd.S_reads' HO689.out).2.1); rintro e w18 ⟨rfl, hb⟩; have _ := ra (Kd.S_below (by (with_reducible repeat (first | apply Kd.S_alloc | apply Kd.S_drewN | apply Kd.S_drew)); exact HO689.out) hb); have _ := ra (Kd.R_below (rq HO692) hb); have _ := ra (Kd.R_below (rq HO695) hb); have _ := bs hb; clear HO689 HO692 HO695 HB; rename_i HO689 HO692 HO695 HB; (try clear hb); (try clear hb2); (try clear hk); (try clear hi))))
    go_meet
    case rel => exact ⟨_, ((t697 != t698)), rs, H', ⟨by first | omega | exact Nat.le_refl _⟩, ⟨by (with_reducible repeat (first | apply Kd.S_alloc | apply Kd.S_drewN | apply Kd.S_drew)); exact HO689.out⟩, ⟨by (with_reducible repeat (first | apply Kd.R_alloc | apply Kd.R_drewN | apply Kd.R_drew)); exact Kd.R_mono HO692.out (fun _ hk => trivial)⟩, ⟨bq⟩⟩
   ·replace c11 := Bool.eq_false_iff.mpr c11
    subst c11
    have H1 : (laws_FnAll.j0 k t687 t690 true) = some true := by rw [if_neg (show ¬ (false = true) by decide)] at H; exact H
    clear H
    have H := H1
    clear H1
    have H' := Aside0.mk H
    clear H
    go_wp2_with (first | (go_at_call 10; (with_reducible refine (spec_ProbeAll.calls k _ _ t687 t693 _ ?side1 ?side2 A9.out).mono ?_); (case side1 => repeat (first | exact (Kd.S_reads' HO689.out).2.2 | (with_reducible refine Kd.C_alloc ?_ _) | (with_reducible refine Kd.C_drewN ?_ _) | (with_reducible refine Kd.C_drew ?_))); (case side2 => exact (Kd.S_reads' HO689.out).2.1); rintro e w19 ⟨v694, rfl, ho0, hb⟩; have _ := ra (Kd.S_below (by (with_reducible repeat (first | apply Kd.S_alloc | apply Kd.S_drewN | apply Kd.S_drew)); exact HO689.out) hb); have _ := ra (Kd.R_elder' (rq HO692) (Kd.R_base ho0) hb); have _ := ra (Kd.R_lower (Kd.R_new' ho0 (Kd.R_lt (rq HO692))) (below_size bq)); have _ := bs hb; clear HO689 HO692 HB; rename_i HO689 HO692 HO695 HB; (try clear hb); (try clear hb2); (try clear hk); (try clear hi); (try clear ho0); obtain ⟨Ao20, co20, eo20⟩ := Kd.R_slice HO692.out; subst eo20; obtain ⟨Ao21, co21, eo21⟩ := Kd.R_slice HO695.out; subst eo21) | (go_at_call 25; (with_reducible refine (laws_wClashes.calls k _ _ t690 _ _ t693 false _ ?side1 ?side2 ?side3 ?side4 A10.out).mono ?_); (case side1 => exact sr HO692); (case side2 => exact (Kd.R_reads' HO692.out).2.1); (case side3 => exact sr HO695); (case side4 => exact (Kd.R_reads' HO695.out).2.1); rintro e w' ⟨rfl, ⟨nd, rfl⟩⟩; (try first | exact ⟨rfl, _, World.drewN_drewN _ _ _⟩ | exact ⟨rfl, _, Eq.trans (World.drewN_drewN _ _ _) (congrArg (World.drewN _) (Nat.add_assoc _ _ _))⟩)))
    repeat (go_quiet (first | (go_at_call 10; (with_reducible refine (spec_ProbeAll.calls k _ _ t687 t693 _ ?side1 ?side2 A9.out).mono ?_); (case side1 => repeat (first | exact (Kd.S_reads' HO689.out).2.2 | (with_reducible refine Kd.C_alloc ?_ _) | (with_reducible refine Kd.C_drewN ?_ _) | (with_reducible refine Kd.C_drew ?_))); (case side2 => exact (Kd.S_reads' HO689.out).2.1); rintro e w19 ⟨v694, rfl, ho0, hb⟩; have _ := ra (Kd.S_below (by (with_reducible repeat (first | apply Kd.S_alloc | apply Kd.S_drewN | apply Kd.S_drew)); exact HO689.out) hb); have _ := ra (Kd.R_elder' (rq HO692) (Kd.R_base ho0) hb); have _ := ra (Kd.R_lower (Kd.R_new' ho0 (Kd.R_lt (rq HO692))) (below_size bq)); have _ := bs hb; clear HO689 HO692 HB; rename_i HO689 HO692 HO695 HB; (try clear hb); (try clear hb2); (try clear hk); (try clear hi); (try clear ho0); obtain ⟨Ao20, co20, eo20⟩ := Kd.R_slice HO692.out; subst eo20; obtain ⟨Ao21, co21, eo21⟩ := Kd.R_slice HO695.out; subst eo21) | (go_at_call 25; (with_reducible refine (laws_wClashes.calls k _ _ t690 _ _ t693 false _ ?side1 ?side2 ?side3 ?side4 A10.out).mono ?_); (case side1 => exact sr HO692); (case side2 => exact (Kd.R_reads' HO692.out).2.1); (case side3 => exact sr HO695); (case side4 => exact (Kd.R_reads' HO695.out).2.1); rintro e w' ⟨rfl, ⟨nd, rfl⟩⟩; (try first | exact ⟨rfl, _, World.drewN_drewN _ _ _⟩ | exact ⟨rfl, _, Eq.trans (World.drewN_drewN _ _ _) (congrArg (World.drewN _) (Nat.add_assoc _ _ _))⟩))); try go_wp2_with (first | (go_at_call 10; (with_reducible refine (spec_ProbeAll.calls k _ _ t687 t693 _ ?side1 ?side2 A9.out).mono ?_); (case side1 => repeat (first | exact (Kd.S_reads' HO689.out).2.2 | (with_reducible refine Kd.C_alloc ?_ _) | (with_reducible refine Kd.C_drewN ?_ _) | (with_reducible refine Kd.C_drew ?_))); (case side2 => exact (Kd.S_reads' HO689.out).2.1); rintro e w19 ⟨v694, rfl, ho0, hb⟩; have _ := ra (Kd.S_below (by (with_reducible repeat (first | apply Kd.S_alloc | apply Kd.S_drewN | apply Kd.S_drew)); exact HO689.out) hb); have _ := ra (Kd.R_elder' (rq HO692) (Kd.R_base ho0) hb); have _ := ra (Kd.R_lower (Kd.R_new' ho0 (Kd.R_lt (rq HO692))) (below_size bq)); have _ := bs hb; clear HO689 HO692 HB; rename_i HO689 HO692 HO695 HB; (try clear hb); (try clear hb2); (try clear hk); (try clear hi); (try clear ho0); obtain ⟨Ao20, co20, eo20⟩ := Kd.R_slice HO692.out; subst eo20; obtain ⟨Ao21, co21, eo21⟩ := Kd.R_slice HO695.out; subst eo21) | (go_at_call 25; (with_reducible refine (laws_wClashes.calls k _ _ t690 _ _ t693 false _ ?side1 ?side2 ?side3 ?side4 A10.out).mono ?_); (case side1 => exact sr HO692); (case side2 => exact (Kd.R_reads' HO692.out).2.1); (case side3 => exact sr HO695); (case side4 => exact (Kd.R_reads' HO695.out).2.1); rintro e w' ⟨rfl, ⟨nd, rfl⟩⟩; (try first | exact ⟨rfl, _, World.drewN_drewN _ _ _⟩ | exact ⟨rfl, _, Eq.trans (World.drewN_drewN _ _ _) (congrArg (World.drewN _) (Nat.add_assoc _ _ _))⟩))))
    go_meet
    case rel => exact ⟨_, (true), rs, H', ⟨by first | omega | exact Nat.le_refl _⟩, ⟨by (with_reducible repeat (first | apply Kd.S_alloc | apply Kd.S_drewN | apply Kd.S_drew)); exact HO689.out⟩, ⟨by (with_reducible repeat (first | apply Kd.R_alloc | apply Kd.R_drewN | apply Kd.R_drew)); exact Kd.R_mono HO692.out (fun _ hk => trivial)⟩, ⟨bq⟩⟩
  case rest =>
   clear HC5
   try clear c2
   try clear c2b0
   try clear c2b1
   try clear c11
   obtain ⟨kq, x28_4, rfl, HA, HJ4, HO_3, HO_4, HB⟩ := hcut
   cases kq with
   | zero => exact absurd HA.out (by simp [laws_FnAll.j0])
   | succ kj4 =>
    have H := HA.out
    clear HA
    simp only [laws_FnAll.j0] at H
    by_cases c22 : x28_4 = true
    ·subst c22
     have H1 : (some false) = some true := by rw [if_pos rfl] at H; exact H
     clear H
     have H := H1
     exact absurd (Option.some.inj H) (by decide)
    ·replace c22 := Bool.eq_false_iff.mpr c22
     subst c22
     have H1 : ((spec_ProbeSkyOk.f kj4 t687).bind fun t699 => (if t699 = true then (laws_FnAll.l0 kj4 t687 t690 0) else (some ((t690.length : Int) == 0)))) = some true := by rw [if_neg (show ¬ (false = true) by decide)] at H; exact H
     clear H
     have H := H1
     clear H1
     obtain ⟨t699, A23, H⟩ := bo H
     by_cases c24 : t699 = true
     ·subst c24
      replace H := it H rfl
      have H' := Aside0.mk H
      clear H
      go_wp2_with (first | (go_at_call 27; (with_reducible refine (spec_ProbeSkyOk.calls kj4 _ _ t687 true _ ?side1 ?side2 A23.out).mono ?_); (case side1 => repeat (first | exact (Kd.S_reads' HO_3.out).2.2 | (with_reducible refine Kd.C_alloc ?_ _) | (with_reducible refine Kd.C_drewN ?_ _) | (with_reducible refine Kd.C_drew ?_))); (case side2 => exact (Kd.S_reads' HO_3.out).2.1); rintro e w25 ⟨rfl, hb⟩; have _ := ra (Kd.S_below (by (with_reducible repeat (first | apply Kd.S_alloc | apply Kd.S_drewN | apply Kd.S_drew)); exact HO_3.out) hb); have _ := ra (Kd.R_below (rq HO_4) hb); have _ := bs hb; clear HO_3 HO_4 HB; rename_i HO_3 HO_4 HB; (try clear hb); (try clear hb2); (try clear hk); (try clear hi)))
      repeat (go_quiet (first | (go_at_call 27; (with_reducible refine (spec_ProbeSkyOk.calls kj4 _ _ t687 true _ ?side1 ?side2 A23.out).mono ?_); (case side1 => repeat (first | exact (Kd.S_reads' HO_3.out).2.2 | (with_reducible refine Kd.C_alloc ?_ _) | (with_reducible refine Kd.C_drewN ?_ _) | (with_reducible refine Kd.C_drew ?_))); (case side2 => exact (Kd.S_reads' HO_3.out).2.1); rintro e w25 ⟨rfl, hb⟩; have _ := ra (Kd.S_below (by (with_reducible repeat (first | apply Kd.S_alloc | apply Kd.S_drewN | apply Kd.S_drew)); exact HO_3.out) hb); have _ := ra (Kd.R_below (rq HO_4) hb); have _ := bs hb; clear HO_3 HO_4 HB; rename_i HO_3 HO_4 HB; (try clear hb); (try clear hb2); (try clear hk); (try clear hi))); try go_wp2_with (first | (go_at_call 27; (with_reducible refine (spec_ProbeSkyOk.calls kj4 _ _ t687 true _ ?side1 ?side2 A23.out).mono ?_); (case side1 => repeat (first | exact (Kd.S_reads' HO_3.out).2.2 | (with_reducible refine Kd.C_alloc ?_ _) | (with_reducible refine Kd.C_drewN ?_ _) | (with_reducible refine Kd.C_drew ?_))); (case side2 => exact (Kd.S_reads' HO_3.out).2.1); rintro e w25 ⟨rfl, hb⟩; have _ := ra (Kd.S_below (by (with_reducible repeat (first | apply Kd.S_alloc | apply Kd.S_drewN | apply Kd.S_drew)); exact HO_3.out) hb); have _ := ra (Kd.R_below (rq HO_4) hb); have _ := bs hb; clear HO_3 HO_4 HB; rename_i HO_3 HO_4 HB; (try clear hb); (try clear hb2); (try clear hk); (try clear hi))))
      go_loopg [5] kj4 (fun kq v5 w' => ∃ (x5_2 : Int), v5 = .int .i64 x5_2 ∧ Aside0 (laws_FnAll.l0 kq t687 t690 x5_2 = some true) ∧ Aside0 (kq ≤ kj4) ∧ Aside0 (Kd.S k40 40 w' w.heap.size (fun _ => True) (.slice Ao7 t687.length co7) t687) ∧ Aside0 (Kd.R k49 49 w' w.heap.size (fun _ => True) v691 t690) ∧ Aside0 (Below w.heap.size w w'))
      case atStart => exact ⟨(0), rs, H', ⟨Nat.le_refl _⟩, ⟨by (with_reducible repeat (first | apply Kd.S_alloc | apply Kd.S_drewN | apply Kd.S_drew)); exact HO_3.out⟩, ⟨rq HO_4⟩, ⟨bq⟩⟩
      case round =>
       clear H'
       try clear c2
       try clear c2b0
       try clear c2b1
       try clear c11
       try clear c22
       try clear c24
       obtain ⟨x5_2, rfl, HA, HK2, HO_3, HO_4, HB⟩ := hrel
       cases gk with
       | zero => exact absurd HA.out (by simp [laws_FnAll.l0])
       | succ k2 =>
        have H := HA.out
        clear HA
        simp only [laws_FnAll.l0] at H
        by_cases c26 : x5_2 < (t687.length : Int)
        ·rw [if_pos c26] at H
         have c26b0 : decide (x5_2 < (t687.length : Int)) = true := decide_eq_true c26
         clear c26
         have H' := Aside0.mk H
         clear H
         go_wp2
         repeat (go_quiet (fail); try go_wp2)
         go_loopg [6, 7] k2 (fun kq v6 v7 w' => ∃ (x6_3 : Int) (x7_3 : Int), v6 = .int .i64 x6_3 ∧ v7 = .int .i64 x7_3 ∧ Aside0 (laws_FnAll.l1 kq t687 t690 x5_2 x6_3 x7_3 = some true) ∧ Aside0 (kq ≤ k2) ∧ Aside0 (Kd.S k40 40 w' w.heap.size (fun _ => True) (.slice Ao7 t687.length co7) t687) ∧ Aside0 (Kd.R k49 49 w' w.heap.size (fun _ => True) v691 t690) ∧ Aside0 (Below w.heap.size w w'))
         case atStart => exact ⟨(0), (0), rs, rs, H', ⟨Nat.le_refl _⟩, ⟨by (with_reducible repeat (first | apply Kd.S_alloc | apply Kd.S_drewN | apply Kd.S_drew)); exact HO_3.out⟩, ⟨rq HO_4⟩, ⟨bq⟩⟩
         case round =>
          clear H'
          try clear c2
          try clear c2b0
          try clear c2b1
          try clear c11
          try clear c22
          try clear c24
          try clear c26
          try clear c26b0
          obtain ⟨x6_3, x7_3, rfl, rfl, HA, HK3, HO_3, HO_4, HB⟩ := hrel
          cases gk with
          | zero => exact absurd HA.out (by simp [laws_FnAll.l1])
          | succ k3 =>
           have H := HA.out
           clear HA
           simp only [laws_FnAll.l1] at H
           by_cases c27 : x7_3 < (t690.length : Int)
           ·rw [if_pos c27] at H
            have c27b0 : decide (x7_3 < (t690.length : Int)) = true := decide_eq_true c27
            clear c27
            by_cases c28 : 0 ≤ x7_3
            ·rw [if_pos c28] at H
             have c28b0 : decide (0 ≤ x7_3) = true := decide_eq_true c28
             clear c28
             by_cases c29 : 0 ≤ x5_2
             ·rw [if_pos c29] at H
              have c29b0 : decide (0 ≤ x5_2) = true := decide_eq_true c29
              clear c29
              by_cases c30 : x5_2 < (t687.length : Int)
              ·rw [if_pos c30] at H
               have c30b0 : decide (x5_2 < (t687.length : Int)) = true := decide_eq_true c30
               clear c30
               by_cases c31 : ((rd_T49 t690 x7_3).f0).toList = ((rd_T40 t687 x5_2).f0).toList
               ·rw [if_pos c31] at H
                have c31b0 : (((rd_T49 t690 x7_3).f0).toList == ((rd_T40 t687 x5_2).f0).toList) = true := beq_iff_eq.mpr c31
                have c31b1 : (((rd_T49 t690 x7_3).f0).toList != ((rd_T40 t687 x5_2).f0).toList) = false := bne_eq_false_iff_eq.mpr c31
                clear c31
                have H' := Aside0.mk H
                clear H
                obtain ⟨Ao32, co32, eo32⟩ := Kd.R_slice HO_4.out
                subst eo32
                have p700 : 0 ≤ (x7_3 : Int) := od
                have q700 : x7_3 < (t690.length : Int) := od
                obtain ⟨ad700, e700, hx700_0, hx700_1, hx700_2, hx700_3, hx700_4⟩ := at_T49 (Kd.R_reads' HO_4.out).2.2 x7_3 p700 q700
                cases e700
                replace p700 := eq_true p700
                replace q700 := eq_true q700
                have p701 : 0 ≤ (x5_2 : Int) := od
                have q701 : x5_2 < (t687.length : Int) := od
                obtain ⟨ad701, A701_1, c701_1, e701, hx701_0, hx701_1, hl701_1, hi701_1⟩ := at_T40 (Kd.S_reads' HO_3.out).2.2 x5_2 p701 q701
                cases e701
                obtain ⟨ce701, hce701, hMe701, hcc701⟩ := Kd.S_get HO_3.out z40 x5_2 p701 (by first | exact q701 | exact od | (have e_ := (Kd.S_reads' HO_3.out).1; omega))
                obtain ⟨ve701_1, rfl, ge701_1⟩ := k40_openM hMe701
                have hv701_1 := hcc701 1 _ rfl
                rw [add_field _ _ 1 (by omega)] at hv701_1
                replace hv701_1 := Option.some.inj (hv701_1.symm.trans hx701_1)
                rw [hv701_1] at ge701_1
                have HL701_1 := ra (show Kd.R k95 95 _ _ _ _ ((rd_T40 t687 x5_2).f1) from ge701_1)
                clear hv701_1 ge701_1
                clear hcc701 hce701
                have HR701_1 := Aside0.mk hi701_1
                have HC701_1 := Aside0.mk hl701_1
                clear hi701_1 hl701_1
                replace p701 := eq_true p701
                replace q701 := eq_true q701
                go_wp2
                repeat (go_quiet (fail); try go_wp2)
                go_roundg k3
                case measure => have := HJ4.out; have := HK2.out; have := HK3.out; omega
                case rel => exact ⟨(wrap64 (x6_3 + 1)), (wrap64 (x7_3 + 1)), rs, rs, H', ⟨by have := HJ4.out; have := HK2.out; have := HK3.out; omega⟩, ⟨by (with_reducible repeat (first | apply Kd.S_alloc | apply Kd.S_drewN | apply Kd.S_drew)); exact HO_3.out⟩, ⟨rq HO_4⟩, ⟨bq⟩⟩
               ·rw [if_neg c31] at H
                have c31b0 : (((rd_T49 t690 x7_3).f0).toList == ((rd_T40 t687 x5_2).f0).toList) = false := beq_eq_false_iff_ne.mpr c31
                have c31b1 : (((rd_T49 t690 x7_3).f0).toList != ((rd_T40 t687 x5_2).f0).toList) = true := bne_iff_ne.mpr c31
                by_cases c33 : ((rd_T49 t690 x7_3).f1).toList = ((rd_T40 t687 x5_2).f0).toList
                ·rw [if_pos c33] at H
                 have c33b0 : (((rd_T49 t690 x7_3).f1).toList == ((rd_T40 t687 x5_2).f0).toList) = true := beq_iff_eq.mpr c33
                 have c33b1 : (((rd_T49 t690 x7_3).f1).toList != ((rd_T40 t687 x5_2).f0).toList) = false := bne_eq_false_iff_eq.mpr c33
                 clear c33
                 have H' := Aside0.mk H
                 clear H
                 obtain ⟨Ao34, co34, eo34⟩ := Kd.R_slice HO_4.out
                 subst eo34
                 have p700 : 0 ≤ (x7_3 : Int) := od
                 have q700 : x7_3 < (t690.length : Int) := od
                 obtain ⟨ad700, e700, hx700_0, hx700_1, hx700_2, hx700_3, hx700_4⟩ := at_T49 (Kd.R_reads' HO_4.out).2.2 x7_3 p700 q700
                 cases e700
                 replace p700 := eq_true p700
                 replace q700 := eq_true q700
                 have p701 : 0 ≤ (x5_2 : Int) := od
                 have q701 : x5_2 < (t687.length : Int) := od
                 obtain ⟨ad701, A701_1, c701_1, e701, hx701_0, hx701_1, hl701_1, hi701_1⟩ := at_T40 (Kd.S_reads' HO_3.out).2.2 x5_2 p701 q701
                 cases e701
                 obtain ⟨ce701, hce701, hMe701, hcc701⟩ := Kd.S_get HO_3.out z40 x5_2 p701 (by first | exact q701 | exact od | (have e_ := (Kd.S_reads' HO_3.out).1; omega))
                 obtain ⟨ve701_1, rfl, ge701_1⟩ := k40_openM hMe701
                 have hv701_1 := hcc701 1 _ rfl
                 rw [add_field _ _ 1 (by omega)] at hv701_1
                 replace hv701_1 := Option.some.inj (hv701_1.symm.trans hx701_1)
                 rw [hv701_1] at ge701_1
                 have HL701_1 := ra (show Kd.R k95 95 _ _ _ _ ((rd_T40 t687 x5_2).f1) from ge701_1)
                 clear hv701_1 ge701_1
                 clear hcc701 hce701
                 have HR701_1 := Aside0.mk hi701_1
                 have HC701_1 := Aside0.mk hl701_1
                 clear hi701_1 hl701_1
                 replace p701 := eq_true p701
                 replace q701 := eq_true q701
                 have p702 : 0 ≤ (x7_3 : Int) := od
                 have q702 : x7_3 < (t690.length : Int) := od
                 obtain ⟨ad702, e702, hx702_0, hx702_1, hx702_2, hx702_3, hx702_4⟩ := at_T49 (Kd.R_reads' HO_4.out).2.2 x7_3 p702 q702
                 obtain rfl : ad700 = ad702 := (by injection e702)
                 replace p702 := eq_true p702
                 replace q702 := eq_true q702
                 have p703 : 0 ≤ (x5_2 : Int) := od
                 have q703 : x5_2 < (t687.length : Int) := od
                 obtain ⟨ad703, A703_1, c703_1, e703, hx703_0, hx703_1, hl703_1, hi703_1⟩ := at_T40 (Kd.S_reads' HO_3.out).2.2 x5_2 p703 q703
                 obtain rfl : ad701 = ad703 := (by injection e703)
                 obtain ⟨ce703, hce703, hMe703, hcc703⟩ := Kd.S_get HO_3.out z40 x5_2 p703 (by first | exact q703 | exact od | (have e_ := (Kd.S_reads' HO_3.out).1; omega))
                 obtain ⟨ve703_1, rfl, ge703_1⟩ := k40_openM hMe703
                 have hv703_1 := hcc703 1 _ rfl
                 rw [add_field _ _ 1 (by omega)] at hv703_1
                 replace hv703_1 := Option.some.inj (hv703_1.symm.trans hx703_1)
                 rw [hv703_1] at ge703_1
                 have HL703_1 := ra (show Kd.R k95 95 _ _ _ _ ((rd_T40 t687 x5_2).f1) from ge703_1)
                 clear hv703_1 ge703_1
                 clear hcc703 hce703
                 have HR703_1 := Aside0.mk hi703_1
                 have HC703_1 := Aside0.mk hl703_1
                 clear hi703_1 hl703_1
                 replace p703 := eq_true p703
                 replace q703 := eq_true q703
                 have ea_ := Option.some.inj (hx701_1.symm.trans hx703_1)
                 injection ea_ with ea_ en_ ec_
                 subst ea_
                 subst ec_
                 clear en_
                 go_wp2
                 repeat (go_quiet (fail); try go_wp2)
                 go_roundg k3
                 case measure => have := HJ4.out; have := HK2.out; have := HK3.out; omega
                 case rel => exact ⟨(wrap64 (x6_3 + 1)), (wrap64 (x7_3 + 1)), rs, rs, H', ⟨by have := HJ4.out; have := HK2.out; have := HK3.out; omega⟩, ⟨by (with_reducible repeat (first | apply Kd.S_alloc | apply Kd.S_drewN | apply Kd.S_drew)); exact HO_3.out⟩, ⟨rq HO_4⟩, ⟨bq⟩⟩
                ·rw [if_neg c33] at H
                 have c33b0 : (((rd_T49 t690 x7_3).f1).toList == ((rd_T40 t687 x5_2).f0).toList) = false := beq_eq_false_iff_ne.mpr c33
                 have c33b1 : (((rd_T49 t690 x7_3).f1).toList != ((rd_T40 t687 x5_2).f0).toList) = true := bne_iff_ne.mpr c33
                 have H' := Aside0.mk H
                 clear H
                 obtain ⟨Ao35, co35, eo35⟩ := Kd.R_slice HO_4.out
                 subst eo35
                 have p700 : 0 ≤ (x7_3 : Int) := od
                 have q700 : x7_3 < (t690.length : Int) := od
                 obtain ⟨ad700, e700, hx700_0, hx700_1, hx700_2, hx700_3, hx700_4⟩ := at_T49 (Kd.R_reads' HO_4.out).2.2 x7_3 p700 q700
                 cases e700
                 replace p700 := eq_true p700
                 replace q700 := eq_true q700
                 have p701 : 0 ≤ (x5_2 : Int) := od
                 have q701 : x5_2 < (t687.length : Int) := od
                 obtain ⟨ad701, A701_1, c701_1, e701, hx701_0, hx701_1, hl701_1, hi701_1⟩ := at_T40 (Kd.S_reads' HO_3.out).2.2 x5_2 p701 q701
                 cases e701
                 obtain ⟨ce701, hce701, hMe701, hcc701⟩ := Kd.S_get HO_3.out z40 x5_2 p701 (by first | exact q701 | exact od | (have e_ := (Kd.S_reads' HO_3.out).1; omega))
                 obtain ⟨ve701_1, rfl, ge701_1⟩ := k40_openM hMe701
                 have hv701_1 := hcc701 1 _ rfl
                 rw [add_field _ _ 1 (by omega)] at hv701_1
                 replace hv701_1 := Option.some.inj (hv701_1.symm.trans hx701_1)
                 rw [hv701_1] at ge701_1
                 have HL701_1 := ra (show Kd.R k95 95 _ _ _ _ ((rd_T40 t687 x5_2).f1) from ge701_1)
                 clear hv701_1 ge701_1
                 clear hcc701 hce701
                 have HR701_1 := Aside0.mk hi701_1
                 have HC701_1 := Aside0.mk hl701_1
                 clear hi701_1 hl701_1
                 replace p701 := eq_true p701
                 replace q701 := eq_true q701
                 have p702 : 0 ≤ (x7_3 : Int) := od
                 have q702 : x7_3 < (t690.length : Int) := od
                 obtain ⟨ad702, e702, hx702_0, hx702_1, hx702_2, hx702_3, hx702_4⟩ := at_T49 (Kd.R_reads' HO_4.out).2.2 x7_3 p702 q702
                 obtain rfl : ad700 = ad702 := (by injection e702)
                 replace p702 := eq_true p702
                 replace q702 := eq_true q702
                 have p703 : 0 ≤ (x5_2 : Int) := od
                 have q703 : x5_2 < (t687.length : Int) := od
                 obtain ⟨ad703, A703_1, c703_1, e703, hx703_0, hx703_1, hl703_1, hi703_1⟩ := at_T40 (Kd.S_reads' HO_3.out).2.2 x5_2 p703 q703
                 obtain rfl : ad701 = ad703 := (by injection e703)
                 obtain ⟨ce703, hce703, hMe703, hcc703⟩ := Kd.S_get HO_3.out z40 x5_2 p703 (by first | exact q703 | exact od | (have e_ := (Kd.S_reads' HO_3.out).1; omega))
                 obtain ⟨ve703_1, rfl, ge703_1⟩ := k40_openM hMe703
                 have hv703_1 := hcc703 1 _ rfl
                 rw [add_field _ _ 1 (by omega)] at hv703_1
                 replace hv703_1 := Option.some.inj (hv703_1.symm.trans hx703_1)
                 rw [hv703_1] at ge703_1
                 have HL703_1 := ra (show Kd.R k95 95 _ _ _ _ ((rd_T40 t687 x5_2).f1) from ge703_1)
                 clear hv703_1 ge703_1
                 clear hcc703 hce703
                 have HR703_1 := Aside0.mk hi703_1
                 have HC703_1 := Aside0.mk hl703_1
                 clear hi703_1 hl703_1
                 replace p703 := eq_true p703
                 replace q703 := eq_true q703
                 have ea_ := Option.some.inj (hx701_1.symm.trans hx703_1)
                 injection ea_ with ea_ en_ ec_
                 subst ea_
                 subst ec_
                 clear en_
                 go_wp2
                 repeat (go_quiet (fail); try go_wp2)
                 go_roundg k3
                 case measure => have := HJ4.out; have := HK2.out; have := HK3.out; omega
                 case rel => exact ⟨(x6_3), (wrap64 (x7_3 + 1)), rs, rs, H', ⟨by have := HJ4.out; have := HK2.out; have := HK3.out; omega⟩, ⟨by (with_reducible repeat (first | apply Kd.S_alloc | apply Kd.S_drewN | apply Kd.S_drew)); exact HO_3.out⟩, ⟨rq HO_4⟩, ⟨bq⟩⟩
              ·rw [if_neg c30] at H
               exact absurd H (by simp)
             ·rw [if_neg c29] at H
              exact absurd H (by simp)
            ·rw [if_neg c28] at H
             exact absurd H (by simp)
           ·rw [if_neg c27] at H
            have c27b0 : decide (x7_3 < (t690.length : Int)) = false := decide_eq_false c27
            clear c27
            have HC36 := Aside0.mk H
            clear H
            obtain ⟨Ao37, co37, eo37⟩ := Kd.R_slice HO_4.out
            subst eo37
            go_upto_region 18 with (fail)
            repeat (go_quiet (fail); go_upto_region 18 with (fail))
            go_cut [92] (fun v92 wc => ∃ (kq : Nat) (x92_35 : Bool), v92 = .bool x92_35 ∧ Aside0 (laws_FnAll.j3 kq t687 t690 x5_2 x6_3 x92_35 = some true) ∧ Aside0 (kq ≤ k3) ∧ Aside0 (Kd.S k40 40 wc w.heap.size (fun _ => True) (.slice Ao7 t687.length co7) t687) ∧ Aside0 (Kd.R k49 49 wc w.heap.size (fun _ => True) (.slice Ao37 t690.length co37) t690) ∧ Aside0 (Below w.heap.size w wc))
            case first =>
             have H := HC36.out
             clear HC36
             by_cases c38 : 0 ≤ x5_2
             ·rw [if_pos c38] at H
              have c38b0 : decide (0 ≤ x5_2) = true := decide_eq_true c38
              clear c38
              (first | rw [c38b0] | (simp only [i64_w, i32_w]; rw [c38b0]) | skip)
              by_cases c39 : x5_2 < (t687.length : Int)
              ·rw [if_pos c39] at H
               have c39b0 : decide (x5_2 < (t687.length : Int)) = true := decide_eq_true c39
               clear c39
               obtain ⟨t705, A40, H⟩ := bo H
               by_cases c41 : (t705 != (x6_3 == 0)) = true
               ·rw [if_pos c41] at H
                have c41b0 : (t705 != (x6_3 == 0)) = true := c41
                (try (have c41b1 : decide (t705 = (x6_3 == 0)) = false := by simpa using c41))
                (try (have c41b2 : (t705 == (x6_3 == 0)) = false := by simpa using c41))
                (try (have c41b3 : ¬ (t705 = (x6_3 == 0)) := by simpa using c41))
                clear c41
                have H' := Aside0.mk H
                clear H
                have p704 : 0 ≤ (x5_2 : Int) := od
                have q704 : x5_2 < (t687.length : Int) := od
                obtain ⟨ad704, A704_1, c704_1, e704, hx704_0, hx704_1, hl704_1, hi704_1⟩ := at_T40 (Kd.S_reads' HO_3.out).2.2 x5_2 p704 q704
                cases e704
                obtain ⟨ce704, hce704, hMe704, hcc704⟩ := Kd.S_get HO_3.out z40 x5_2 p704 (by first | exact q704 | exact od | (have e_ := (Kd.S_reads' HO_3.out).1; omega))
                obtain ⟨ve704_1, rfl, ge704_1⟩ := k40_openM hMe704
                have hv704_1 := hcc704 1 _ rfl
                rw [add_field _ _ 1 (by omega)] at hv704_1
                replace hv704_1 := Option.some.inj (hv704_1.symm.trans hx704_1)
                rw [hv704_1] at ge704_1
                have HL704_1 := ra (show Kd.R k95 95 _ _ _ _ ((rd_T40 t687 x5_2).f1) from ge704_1)
                clear hv704_1 ge704_1
                clear hcc704 hce704
                have HR704_1 := Aside0.mk hi704_1
                have HC704_1 := Aside0.mk hl704_1
                clear hi704_1 hl704_1
                replace p704 := eq_true p704
                replace q704 := eq_true q704
                go_wp2_with (first | (go_at_call 28; (with_reducible refine (impl_ProbeFree.calls k3 _ _ t687 ((rd_T40 t687 x5_2).f0) _ _ ((rd_T40 t687 x5_2).f1) t705 _ ?side1 ?side2 ?side3 ?side4 A40.out).mono ?_); (case side1 => repeat (first | exact (Kd.S_reads' HO_3.out).2.2 | (with_reducible refine Kd.C_alloc ?_ _) | (with_reducible refine Kd.C_drewN ?_ _) | (with_reducible refine Kd.C_drew ?_))); (case side2 => exact (Kd.S_reads' HO_3.out).2.1); (case side3 => repeat (first | exact (by repeat (first | (with_reducible exact HR704_1.out) | (with_reducible refine Kd.C_alloc ?_ _) | (with_reducible refine Kd.C_drewN ?_ _) | (with_reducible refine Kd.C_drew ?_) | exact HR704_1.out)) | (with_reducible refine Kd.C_alloc ?_ _) | (with_reducible refine Kd.C_drewN ?_ _) | (with_reducible refine Kd.C_drew ?_))); (case side4 => exact HC704_1.out); rintro e w42 ⟨rfl, hb⟩; have _ := ra (Kd.S_below (by (with_reducible repeat (first | apply Kd.S_alloc | apply Kd.S_drewN | apply Kd.S_drew)); exact HO_3.out) hb); have _ := ra (Kd.R_below (rq HO_4) hb); have _ := ra (Kd.R_below (by (with_reducible repeat (first | apply Kd.R_alloc | apply Kd.R_drewN | apply Kd.R_drew)); exact HL704_1.out) hb); have _ := ra (Kd.C_below (by repeat (first | (with_reducible exact HR704_1.out) | (with_reducible refine Kd.C_alloc ?_ _) | (with_reducible refine Kd.C_drewN ?_ _) | (with_reducible refine Kd.C_drew ?_) | exact HR704_1.out)) hb); have _ := bs hb; clear HO_3 HO_4 HL704_1 HR704_1 HB; rename_i HO_3 HO_4 HL704_1 HR704_1 HB; (try clear hb); (try clear hb2); (try clear hk); (try clear hi)))
                repeat (go_quiet (first | (go_at_call 28; (with_reducible refine (impl_ProbeFree.calls k3 _ _ t687 ((rd_T40 t687 x5_2).f0) _ _ ((rd_T40 t687 x5_2).f1) t705 _ ?side1 ?side2 ?side3 ?side4 A40.out).mono ?_); (case side1 => repeat (first | exact (Kd.S_reads' HO_3.out).2.2 | (with_reducible refine Kd.C_alloc ?_ _) | (with_reducible refine Kd.C_drewN ?_ _) | (with_reducible refine Kd.C_drew ?_))); (case side2 => exact (Kd.S_reads' HO_3.out).2.1); (case side3 => repeat (first | exact (by repeat (first | (with_reducible exact HR704_1.out) | (with_reducible refine Kd.C_alloc ?_ _) | (with_reducible refine Kd.C_drewN ?_ _) | (with_reducible refine Kd.C_drew ?_) | exact HR704_1.out)) | (with_reducible refine Kd.C_alloc ?_ _) | (with_reducible refine Kd.C_drewN ?_ _) | (with_reducible refine Kd.C_drew ?_))); (case side4 => exact HC704_1.out); rintro e w42 ⟨rfl, hb⟩; have _ := ra (Kd.S_below (by (with_reducible repeat (first | apply Kd.S_alloc | apply Kd.S_drewN | apply Kd.S_drew)); exact HO_3.out) hb); have _ := ra (Kd.R_below (rq HO_4) hb); have _ := ra (Kd.R_below (by (with_reducible repeat (first | apply Kd.R_alloc | apply Kd.R_drewN | apply Kd.R_drew)); exact HL704_1.out) hb); have _ := ra (Kd.C_below (by repeat (first | (with_reducible exact HR704_1.out) | (with_reducible refine Kd.C_alloc ?_ _) | (with_reducible refine Kd.C_drewN ?_ _) | (with_reducible refine Kd.C_drew ?_) | exact HR704_1.out)) hb); have _ := bs hb; clear HO_3 HO_4 HL704_1 HR704_1 HB; rename_i HO_3 HO_4 HL704_1 HR704_1 HB; (try clear hb); (try clear hb2); (try clear hk); (try clear hi))); try go_wp2_with (first | (go_at_call 28; (with_reducible refine (impl_ProbeFree.calls k3 _ _ t687 ((rd_T40 t687 x5_2).f0) _ _ ((rd_T40 t687 x5_2).f1) t705 _ ?side1 ?side2 ?side3 ?side4 A40.out).mono ?_); (case side1 => repeat (first | exact (Kd.S_reads' HO_3.out).2.2 | (with_reducible refine Kd.C_alloc ?_ _) | (with_reducible refine Kd.C_drewN ?_ _) | (with_reducible refine Kd.C_drew ?_))); (case side2 => exact (Kd.S_reads' HO_3.out).2.1); (case side3 => repeat (first | exact (by repeat (first | (with_reducible exact HR704_1.out) | (with_reducible refine Kd.C_alloc ?_ _) | (with_reducible refine Kd.C_drewN ?_ _) | (with_reducible refine Kd.C_drew ?_) | exact HR704_1.out)) | (with_reducible refine Kd.C_alloc ?_ _) | (with_reducible refine Kd.C_drewN ?_ _) | (with_reducible refine Kd.C_drew ?_))); (case side4 => exact HC704_1.out); rintro e w42 ⟨rfl, hb⟩; have _ := ra (Kd.S_below (by (with_reducible repeat (first | apply Kd.S_alloc | apply Kd.S_drewN | apply Kd.S_drew)); exact HO_3.out) hb); have _ := ra (Kd.R_below (rq HO_4) hb); have _ := ra (Kd.R_below (by (with_reducible repeat (first | apply Kd.R_alloc | apply Kd.R_drewN | apply Kd.R_drew)); exact HL704_1.out) hb); have _ := ra (Kd.C_below (by repeat (first | (with_reducible exact HR704_1.out) | (with_reducible refine Kd.C_alloc ?_ _) | (with_reducible refine Kd.C_drewN ?_ _) | (with_reducible refine Kd.C_drew ?_) | exact HR704_1.out)) hb); have _ := bs hb; clear HO_3 HO_4 HL704_1 HR704_1 HB; rename_i HO_3 HO_4 HL704_1 HR704_1 HB; (try clear hb); (try clear hb2); (try clear hk); (try clear hi))))
                go_meet
                case rel => exact ⟨_, (true), rs, H', ⟨by have := HJ4.out; have := HK2.out; have := HK3.out; first | omega | exact Nat.le_refl _⟩, ⟨by (with_reducible repeat (first | apply Kd.S_alloc | apply Kd.S_drewN | apply Kd.S_drew)); exact HO_3.out⟩, ⟨rq HO_4⟩, ⟨bq⟩⟩
               ·rw [if_neg c41] at H
                have c41b0 : (t705 != (x6_3 == 0)) = false := by simpa using c41
                (try (have c41b1 : decide (t705 = (x6_3 == 0)) = true := by simpa using c41))
                (try (have c41b2 : (t705 == (x6_3 == 0)) = true := by simpa using c41))
                clear c41
                obtain ⟨t707, A43, H⟩ := bo H
                have H' := Aside0.mk H
                clear H
                have p704 : 0 ≤ (x5_2 : Int) := od
                have q704 : x5_2 < (t687.length : Int) := od
                obtain ⟨ad704, A704_1, c704_1, e704, hx704_0, hx704_1, hl704_1, hi704_1⟩ := at_T40 (Kd.S_reads' HO_3.out).2.2 x5_2 p704 q704
                cases e704
                obtain ⟨ce704, hce704, hMe704, hcc704⟩ := Kd.S_get HO_3.out z40 x5_2 p704 (by first | exact q704 | exact od | (have e_ := (Kd.S_reads' HO_3.out).1; omega))
                obtain ⟨ve704_1, rfl, ge704_1⟩ := k40_openM hMe704
                have hv704_1 := hcc704 1 _ rfl
                rw [add_field _ _ 1 (by omega)] at hv704_1
                replace hv704_1 := Option.some.inj (hv704_1.symm.trans hx704_1)
                rw [hv704_1] at ge704_1
                have HL704_1 := ra (show Kd.R k95 95 _ _ _ _ ((rd_T40 t687 x5_2).f1) from ge704_1)
                clear hv704_1 ge704_1
                clear hcc704 hce704
                have HR704_1 := Aside0.mk hi704_1
                have HC704_1 := Aside0.mk hl704_1
                clear hi704_1 hl704_1
                replace p704 := eq_true p704
                replace q704 := eq_true q704
                go_wp2_with (first | (go_at_call 28; (with_reducible refine (impl_ProbeFree.calls k3 _ _ t687 ((rd_T40 t687 x5_2).f0) _ _ ((rd_T40 t687 x5_2).f1) t705 _ ?side1 ?side2 ?side3 ?side4 A40.out).mono ?_); (case side1 => repeat (first | exact (Kd.S_reads' HO_3.out).2.2 | (with_reducible refine Kd.C_alloc ?_ _) | (with_reducible refine Kd.C_drewN ?_ _) | (with_reducible refine Kd.C_drew ?_))); (case side2 => exact (Kd.S_reads' HO_3.out).2.1); (case side3 => repeat (first | exact (by repeat (first | (with_reducible exact HR704_1.out) | (with_reducible refine Kd.C_alloc ?_ _) | (with_reducible refine Kd.C_drewN ?_ _) | (with_reducible refine Kd.C_drew ?_) | exact HR704_1.out)) | (with_reducible refine Kd.C_alloc ?_ _) | (with_reducible refine Kd.C_drewN ?_ _) | (with_reducible refine Kd.C_drew ?_))); (case side4 => exact HC704_1.out); rintro e w44 ⟨rfl, hb⟩; have _ := ra (Kd.S_below (by (with_reducible repeat (first | apply Kd.S_alloc | apply Kd.S_drewN | apply Kd.S_drew)); exact HO_3.out) hb); have _ := ra (Kd.R_below (rq HO_4) hb); have _ := ra (Kd.R_below (by (with_reducible repeat (first | apply Kd.R_alloc | apply Kd.R_drewN | apply Kd.R_drew)); exact HL704_1.out) hb); have _ := ra (Kd.C_below (by repeat (first | (with_reducible exact HR704_1.out) | (with_reducible refine Kd.C_alloc ?_ _) | (with_reducible refine Kd.C_drewN ?_ _) | (with_reducible refine Kd.C_drew ?_) | exact HR704_1.out)) hb); have _ := bs hb; clear HO_3 HO_4 HL704_1 HR704_1 HB; rename_i HO_3 HO_4 HL704_1 HR704_1 HB; (try clear hb); (try clear hb2); (try clear hk); (try clear hi); have p706 : 0 ≤ (x5_2 : Int) := od; have q706 : x5_2 < (t687.length : Int) := od; obtain ⟨ad706, A706_1, c706_1, e706, hx706_0, hx706_1, hl706_1, hi706_1⟩ := at_T40 (Kd.S_reads' HO_3.out).2.2 x5_2 p706 q706; obtain rfl : ad704 = ad706 := (by injection e706); obtain ⟨ce706, hce706, hMe706, hcc706⟩ := Kd.S_get HO_3.out z40 x5_2 p706 (by first | exact q706 | exact od | (have e_ := (Kd.S_reads' HO_3.out).1; omega)); obtain ⟨ve706_1, rfl, ge706_1⟩ := k40_openM hMe706; have hv706_1 := hcc706 1 _ rfl; rw [add_field _ _ 1 (by omega)] at hv706_1; replace hv706_1 := Option.some.inj (hv706_1.symm.trans hx706_1); rw [hv706_1] at ge706_1; have HL706_1 := ra (show Kd.R k95 95 _ _ _ _ ((rd_T40 t687 x5_2).f1) from ge706_1); clear hv706_1 ge706_1; clear hcc706 hce706; have HR706_1 := Aside0.mk hi706_1; have HC706_1 := Aside0.mk hl706_1; clear hi706_1 hl706_1; replace p706 := eq_true p706; replace q706 := eq_true q706) | (go_at_call 21; (with_reducible refine (impl_ProbeWith.calls k3 _ _ t687 ((rd_T40 t687 x5_2).f0) _ _ ((rd_T40 t687 x5_2).f1) t707 _ ?side1 ?side2 ?side3 ?side4 A43.out).mono ?_); (case side1 => repeat (first | exact (Kd.S_reads' HO_3.out).2.2 | (with_reducible refine Kd.C_alloc ?_ _) | (with_reducible refine Kd.C_drewN ?_ _) | (with_reducible refine Kd.C_drew ?_))); (case side2 => exact (Kd.S_reads' HO_3.out).2.1); (case side3 => repeat (first | exact (by repeat (first | (with_reducible exact HR706_1.out) | (with_reducible refine Kd.C_alloc ?_ _) | (with_reducible refine Kd.C_drewN ?_ _) | (with_reducible refine Kd.C_drew ?_) | exact HR706_1.out)) | (with_reducible refine Kd.C_alloc ?_ _) | (with_reducible refine Kd.C_drewN ?_ _) | (with_reducible refine Kd.C_drew ?_))); (case side4 => exact HC706_1.out); rintro e w45 ⟨v708, rfl, ho0, hb⟩; have _ := ra (Kd.S_below (by (with_reducible repeat (first | apply Kd.S_alloc | apply Kd.S_drewN | apply Kd.S_drew)); exact HO_3.out) hb); have _ := ra (Kd.R_elder' (rq HO_4) (Kd.R_base ho0) hb); have _ := ra (Kd.R_below (by (with_reducible repeat (first | apply Kd.R_alloc | apply Kd.R_drewN | apply Kd.R_drew)); exact HL704_1.out) hb); have _ := ra (Kd.R_below (by (with_reducible repeat (first | apply Kd.R_alloc | apply Kd.R_drewN | apply Kd.R_drew)); exact HL706_1.out) hb); have _ := ra (Kd.R_lower (Kd.R_new' ho0 (Kd.R_lt (rq HO_4))) (below_size bq)); have _ := ra (Kd.C_below (by repeat (first | (with_reducible exact HR704_1.out) | (with_reducible refine Kd.C_alloc ?_ _) | (with_reducible refine Kd.C_drewN ?_ _) | (with_reducible refine Kd.C_drew ?_) | exact HR704_1.out)) hb); have _ := ra (Kd.C_below (by repeat (first | (with_reducible exact HR706_1.out) | (with_reducible refine Kd.C_alloc ?_ _) | (with_reducible refine Kd.C_drewN ?_ _) | (with_reducible refine Kd.C_drew ?_) | exact HR706_1.out)) hb); have _ := bs hb; clear HO_3 HO_4 HL704_1 HL706_1 HR704_1 HR706_1 HB; rename_i HO_3 HO_4 HL704_1 HL706_1 HO709 HR704_1 HR706_1 HB; (try clear hb); (try clear hb2); (try clear hk); (try clear hi); (try clear ho0); obtain ⟨Ao46, co46, eo46⟩ := Kd.R_slice HO709.out; subst eo46))
                repeat (go_quiet (first | (go_at_call 28; (with_reducible refine (impl_ProbeFree.calls k3 _ _ t687 ((rd_T40 t687 x5_2).f0) _ _ ((rd_T40 t687 x5_2).f1) t705 _ ?side1 ?side2 ?side3 ?side4 A40.out).mono ?_); (case side1 => repeat (first | exact (Kd.S_reads' HO_3.out).2.2 | (with_reducible refine Kd.C_alloc ?_ _) | (with_reducible refine Kd.C_drewN ?_ _) | (with_reducible refine Kd.C_drew ?_))); (case side2 => exact (Kd.S_reads' HO_3.out).2.1); (case side3 => repeat (first | exact (by repeat (first | (with_reducible exact HR704_1.out) | (with_reducible refine Kd.C_alloc ?_ _) | (with_reducible refine Kd.C_drewN ?_ _) | (with_reducible refine Kd.C_drew ?_) | exact HR704_1.out)) | (with_reducible refine Kd.C_alloc ?_ _) | (with_reducible refine Kd.C_drewN ?_ _) | (with_reducible refine Kd.C_drew ?_))); (case side4 => exact HC704_1.out); rintro e w44 ⟨rfl, hb⟩; have _ := ra (Kd.S_below (by (with_reducible repeat (first | apply Kd.S_alloc | apply Kd.S_drewN | apply Kd.S_drew)); exact HO_3.out) hb); have _ := ra (Kd.R_below (rq HO_4) hb); have _ := ra (Kd.R_below (by (with_reducible repeat (first | apply Kd.R_alloc | apply Kd.R_drewN | apply Kd.R_drew)); exact HL704_1.out) hb); have _ := ra (Kd.C_below (by repeat (first | (with_reducible exact HR704_1.out) | (with_reducible refine Kd.C_alloc ?_ _) | (with_reducible refine Kd.C_drewN ?_ _) | (with_reducible refine Kd.C_drew ?_) | exact HR704_1.out)) hb); have _ := bs hb; clear HO_3 HO_4 HL704_1 HR704_1 HB; rename_i HO_3 HO_4 HL704_1 HR704_1 HB; (try clear hb); (try clear hb2); (try clear hk); (try clear hi); have p706 : 0 ≤ (x5_2 : Int) := od; have q706 : x5_2 < (t687.length : Int) := od; obtain ⟨ad706, A706_1, c706_1, e706, hx706_0, hx706_1, hl706_1, hi706_1⟩ := at_T40 (Kd.S_reads' HO_3.out).2.2 x5_2 p706 q706; obtain rfl : ad704 = ad706 := (by injection e706); obtain ⟨ce706, hce706, hMe706, hcc706⟩ := Kd.S_get HO_3.out z40 x5_2 p706 (by first | exact q706 | exact od | (have e_ := (Kd.S_reads' HO_3.out).1; omega)); obtain ⟨ve706_1, rfl, ge706_1⟩ := k40_openM hMe706; have hv706_1 := hcc706 1 _ rfl; rw [add_field _ _ 1 (by omega)] at hv706_1; replace hv706_1 := Option.some.inj (hv706_1.symm.trans hx706_1); rw [hv706_1] at ge706_1; have HL706_1 := ra (show Kd.R k95 95 _ _ _ _ ((rd_T40 t687 x5_2).f1) from ge706_1); clear hv706_1 ge706_1; clear hcc706 hce706; have HR706_1 := Aside0.mk hi706_1; have HC706_1 := Aside0.mk hl706_1; clear hi706_1 hl706_1; replace p706 := eq_true p706; replace q706 := eq_true q706) | (go_at_call 21; (with_reducible refine (impl_ProbeWith.calls k3 _ _ t687 ((rd_T40 t687 x5_2).f0) _ _ ((rd_T40 t687 x5_2).f1) t707 _ ?side1 ?side2 ?side3 ?side4 A43.out).mono ?_); (case side1 => repeat (first | exact (Kd.S_reads' HO_3.out).2.2 | (with_reducible refine Kd.C_alloc ?_ _) | (with_reducible refine Kd.C_drewN ?_ _) | (with_reducible refine Kd.C_drew ?_))); (case side2 => exact (Kd.S_reads' HO_3.out).2.1); (case side3 => repeat (first | exact (by repeat (first | (with_reducible exact HR706_1.out) | (with_reducible refine Kd.C_alloc ?_ _) | (with_reducible refine Kd.C_drewN ?_ _) | (with_reducible refine Kd.C_drew ?_) | exact HR706_1.out)) | (with_reducible refine Kd.C_alloc ?_ _) | (with_reducible refine Kd.C_drewN ?_ _) | (with_reducible refine Kd.C_drew ?_))); (case side4 => exact HC706_1.out); rintro e w45 ⟨v708, rfl, ho0, hb⟩; have _ := ra (Kd.S_below (by (with_reducible repeat (first | apply Kd.S_alloc | apply Kd.S_drewN | apply Kd.S_drew)); exact HO_3.out) hb); have _ := ra (Kd.R_elder' (rq HO_4) (Kd.R_base ho0) hb); have _ := ra (Kd.R_below (by (with_reducible repeat (first | apply Kd.R_alloc | apply Kd.R_drewN | apply Kd.R_drew)); exact HL704_1.out) hb); have _ := ra (Kd.R_below (by (with_reducible repeat (first | apply Kd.R_alloc | apply Kd.R_drewN | apply Kd.R_drew)); exact HL706_1.out) hb); have _ := ra (Kd.R_lower (Kd.R_new' ho0 (Kd.R_lt (rq HO_4))) (below_size bq)); have _ := ra (Kd.C_below (by repeat (first | (with_reducible exact HR704_1.out) | (with_reducible refine Kd.C_alloc ?_ _) | (with_reducible refine Kd.C_drewN ?_ _) | (with_reducible refine Kd.C_drew ?_) | exact HR704_1.out)) hb); have _ := ra (Kd.C_below (by repeat (first | (with_reducible exact HR706_1.out) | (with_reducible refine Kd.C_alloc ?_ _) | (with_reducible refine Kd.C_drewN ?_ _) | (with_reducible refine Kd.C_drew ?_) | exact HR706_1.out)) hb); have _ := bs hb; clear HO_3 HO_4 HL704_1 HL706_1 HR704_1 HR706_1 HB; rename_i HO_3 HO_4 HL704_1 HL706_1 HO709 HR704_1 HR706_1 HB; (try clear hb); (try clear hb2); (try clear hk); (try clear hi); (try clear ho0); obtain ⟨Ao46, co46, eo46⟩ := Kd.R_slice HO709.out; subst eo46)); try go_wp2_with (first | (go_at_call 28; (with_reducible refine (impl_ProbeFree.calls k3 _ _ t687 ((rd_T40 t687 x5_2).f0) _ _ ((rd_T40 t687 x5_2).f1) t705 _ ?side1 ?side2 ?side3 ?side4 A40.out).mono ?_); (case side1 => repeat (first | exact (Kd.S_reads' HO_3.out).2.2 | (with_reducible refine Kd.C_alloc ?_ _) | (with_reducible refine Kd.C_drewN ?_ _) | (with_reducible refine Kd.C_drew ?_))); (case side2 => exact (Kd.S_reads' HO_3.out).2.1); (case side3 => repeat (first | exact (by repeat (first | (with_reducible exact HR704_1.out) | (with_reducible refine Kd.C_alloc ?_ _) | (with_reducible refine Kd.C_drewN ?_ _) | (with_reducible refine Kd.C_drew ?_) | exact HR704_1.out)) | (with_reducible refine Kd.C_alloc ?_ _) | (with_reducible refine Kd.C_drewN ?_ _) | (with_reducible refine Kd.C_drew ?_))); (case side4 => exact HC704_1.out); rintro e w44 ⟨rfl, hb⟩; have _ := ra (Kd.S_below (by (with_reducible repeat (first | apply Kd.S_alloc | apply Kd.S_drewN | apply Kd.S_drew)); exact HO_3.out) hb); have _ := ra (Kd.R_below (rq HO_4) hb); have _ := ra (Kd.R_below (by (with_reducible repeat (first | apply Kd.R_alloc | apply Kd.R_drewN | apply Kd.R_drew)); exact HL704_1.out) hb); have _ := ra (Kd.C_below (by repeat (first | (with_reducible exact HR704_1.out) | (with_reducible refine Kd.C_alloc ?_ _) | (with_reducible refine Kd.C_drewN ?_ _) | (with_reducible refine Kd.C_drew ?_) | exact HR704_1.out)) hb); have _ := bs hb; clear HO_3 HO_4 HL704_1 HR704_1 HB; rename_i HO_3 HO_4 HL704_1 HR704_1 HB; (try clear hb); (try clear hb2); (try clear hk); (try clear hi); have p706 : 0 ≤ (x5_2 : Int) := od; have q706 : x5_2 < (t687.length : Int) := od; obtain ⟨ad706, A706_1, c706_1, e706, hx706_0, hx706_1, hl706_1, hi706_1⟩ := at_T40 (Kd.S_reads' HO_3.out).2.2 x5_2 p706 q706; obtain rfl : ad704 = ad706 := (by injection e706); obtain ⟨ce706, hce706, hMe706, hcc706⟩ := Kd.S_get HO_3.out z40 x5_2 p706 (by first | exact q706 | exact od | (have e_ := (Kd.S_reads' HO_3.out).1; omega)); obtain ⟨ve706_1, rfl, ge706_1⟩ := k40_openM hMe706; have hv706_1 := hcc706 1 _ rfl; rw [add_field _ _ 1 (by omega)] at hv706_1; replace hv706_1 := Option.some.inj (hv706_1.symm.trans hx706_1); rw [hv706_1] at ge706_1; have HL706_1 := ra (show Kd.R k95 95 _ _ _ _ ((rd_T40 t687 x5_2).f1) from ge706_1); clear hv706_1 ge706_1; clear hcc706 hce706; have HR706_1 := Aside0.mk hi706_1; have HC706_1 := Aside0.mk hl706_1; clear hi706_1 hl706_1; replace p706 := eq_true p706; replace q706 := eq_true q706) | (go_at_call 21; (with_reducible refine (impl_ProbeWith.calls k3 _ _ t687 ((rd_T40 t687 x5_2).f0) _ _ ((rd_T40 t687 x5_2).f1) t707 _ ?side1 ?side2 ?side3 ?side4 A43.out).mono ?_); (case side1 => repeat (first | exact (Kd.S_reads' HO_3.out).2.2 | (with_reducible refine Kd.C_alloc ?_ _) | (with_reducible refine Kd.C_drewN ?_ _) | (with_reducible refine Kd.C_drew ?_))); (case side2 => exact (Kd.S_reads' HO_3.out).2.1); (case side3 => repeat (first | exact (by repeat (first | (with_reducible exact HR706_1.out) | (with_reducible refine Kd.C_alloc ?_ _) | (with_reducible refine Kd.C_drewN ?_ _) | (with_reducible refine Kd.C_drew ?_) | exact HR706_1.out)) | (with_reducible refine Kd.C_alloc ?_ _) | (with_reducible refine Kd.C_drewN ?_ _) | (with_reducible refine Kd.C_drew ?_))); (case side4 => exact HC706_1.out); rintro e w45 ⟨v708, rfl, ho0, hb⟩; have _ := ra (Kd.S_below (by (with_reducible repeat (first | apply Kd.S_alloc | apply Kd.S_drewN | apply Kd.S_drew)); exact HO_3.out) hb); have _ := ra (Kd.R_elder' (rq HO_4) (Kd.R_base ho0) hb); have _ := ra (Kd.R_below (by (with_reducible repeat (first | apply Kd.R_alloc | apply Kd.R_drewN | apply Kd.R_drew)); exact HL704_1.out) hb); have _ := ra (Kd.R_below (by (with_reducible repeat (first | apply Kd.R_alloc | apply Kd.R_drewN | apply Kd.R_drew)); exact HL706_1.out) hb); have _ := ra (Kd.R_lower (Kd.R_new' ho0 (Kd.R_lt (rq HO_4))) (below_size bq)); have _ := ra (Kd.C_below (by repeat (first | (with_reducible exact HR704_1.out) | (with_reducible refine Kd.C_alloc ?_ _) | (with_reducible refine Kd.C_drewN ?_ _) | (with_reducible refine Kd.C_drew ?_) | exact HR704_1.out)) hb); have _ := ra (Kd.C_below (by repeat (first | (with_reducible exact HR706_1.out) | (with_reducible refine Kd.C_alloc ?_ _) | (with_reducible refine Kd.C_drewN ?_ _) | (with_reducible refine Kd.C_drew ?_) | exact HR706_1.out)) hb); have _ := bs hb; clear HO_3 HO_4 HL704_1 HL706_1 HR704_1 HR706_1 HB; rename_i HO_3 HO_4 HL704_1 HL706_1 HO709 HR704_1 HR706_1 HB; (try clear hb); (try clear hb2); (try clear hk); (try clear hi); (try clear ho0); obtain ⟨Ao46, co46, eo46⟩ := Kd.R_slice HO709.out; subst eo46)))
                go_meet
                case rel => exact ⟨_, (((t707.length : Int) != x6_3)), rs, H', ⟨by have := HJ4.out; have := HK2.out; have := HK3.out; first | omega | exact Nat.le_refl _⟩, ⟨by (with_reducible repeat (first | apply Kd.S_alloc | apply Kd.S_drewN | apply Kd.S_drew)); exact HO_3.out⟩, ⟨by (with_reducible repeat (first | apply Kd.R_alloc | apply Kd.R_drewN | apply Kd.R_drew)); exact Kd.R_mono HO_4.out (fun _ hk => trivial)⟩, ⟨bq⟩⟩
              ·rw [if_neg c39] at H
               exact absurd H (by simp)
             ·rw [if_neg c38] at H
              exact absurd H (by simp)
            case rest =>
             clear HC36
             try clear c2
             try clear c2b0
             try clear c2b1
             try clear c11
             try clear c22
             try clear c24
             try clear c26
             try clear c26b0
             try clear c27
             try clear c27b0
             try clear c28
             try clear c28b0
             try clear c29
             try clear c29b0
             try clear c30
             try clear c30b0
             try clear c31
             try clear c31b0
             try clear c31b1
             try clear c33
             try clear c33b0
             try clear c33b1
             try clear c38
             try clear c38b0
             try clear c39
             try clear c39b0
             try clear c41
             try clear c41b0
             try clear c41b1
             try clear c41b2
             try clear hx700_0
             try clear hx700_1
             try clear hx700_2
             try clear hx700_3
             try clear hx700_4
             try clear hx701_0
             try clear hx701_1
             try clear hx702_0
             try clear hx702_1
             try clear hx702_2
             try clear hx702_3
             try clear hx702_4
             try clear hx703_0
             try clear hx703_1
             try clear hx704_0
             try clear hx704_1
             try clear hx706_0
             try clear hx706_1
             try clear p700
             try clear p701
             try clear p702
             try clear p703
             try clear p704
             try clear p706
             try clear q700
             try clear q701
             try clear q702
             try clear q703
             try clear q704
             try clear q706
             obtain ⟨kq, x92_35, rfl, HA, HJ35, HO_3, HO_4, HB⟩ := hcut
             cases kq with
             | zero => exact absurd HA.out (by simp [laws_FnAll.j3])
             | succ kj35 =>
              have H := HA.out
              clear HA
              simp only [laws_FnAll.j3] at H
              by_cases c47 : x92_35 = true
              ·subst c47
               have H1 : (some false) = some true := by rw [if_pos rfl] at H; exact H
               clear H
               have H := H1
               exact absurd (Option.some.inj H) (by decide)
              ·replace c47 := Bool.eq_false_iff.mpr c47
               subst c47
               have H1 : (if 0 ≤ x5_2 then (if x5_2 < (t687.length : Int) then ((impl_ProbeHappen.f kj35 t687 true ((rd_T40 t687 x5_2).f0) ((rd_T40 t687 x5_2).f1)).bind fun bt711 => (if bt711.2 = 0 then ((impl_ProbeAll.f kj35 bt711.1).bind fun t715 => (if (t715.length : Int) = (wrap64 ((t690.length : Int) - x6_3)) then (laws_FnAll.l0 kj35 t687 t690 (wrap64 (x5_2 + 1))) else (some false))) else (some false))) else (none)) else (none)) = some true := by rw [if_neg (show ¬ (false = true) by decide)] at H; exact H
               clear H
               have H := H1
               clear H1
               by_cases c48 : 0 ≤ x5_2
               ·rw [if_pos c48] at H
                have c48b0 : decide (0 ≤ x5_2) = true := decide_eq_true c48
                clear c48
                by_cases c49 : x5_2 < (t687.length : Int)
                ·rw [if_pos c49] at H
                 have c49b0 : decide (x5_2 < (t687.length : Int)) = true := decide_eq_true c49
                 clear c49
                 obtain ⟨⟨t711, t714⟩, A50, H⟩ := bo H
                 try dsimp only at H
                 by_cases c51 : t714 = 0
                 ·rw [if_pos c51] at H
                  have c51b0 : (t714 == 0) = true := beq_iff_eq.mpr c51
                  have c51b1 : (t714 != 0) = false := bne_eq_false_iff_eq.mpr c51
                  clear c51
                  obtain ⟨t715, A52, H⟩ := bo H
                  by_cases c53 : (t715.length : Int) = (wrap64 ((t690.length : Int) - x6_3))
                  ·rw [if_pos c53] at H
                   have c53b0 : ((t715.length : Int) == (wrap64 ((t690.length : Int) - x6_3))) = true := beq_iff_eq.mpr c53
                   have c53b1 : ((t715.length : Int) != (wrap64 ((t690.length : Int) - x6_3))) = false := bne_eq_false_iff_eq.mpr c53
                   clear c53
                   have H' := Aside0.mk H
                   clear H
                   have p710 : 0 ≤ (x5_2 : Int) := od
                   have q710 : x5_2 < (t687.length : Int) := od
                   obtain ⟨ad710, A710_1, c710_1, e710, hx710_0, hx710_1, hl710_1, hi710_1⟩ := at_T40 (Kd.S_reads' HO_3.out).2.2 x5_2 p710 q710
                   cases e710
                   obtain ⟨ce710, hce710, hMe710, hcc710⟩ := Kd.S_get HO_3.out z40 x5_2 p710 (by first | exact q710 | exact od | (have e_ := (Kd.S_reads' HO_3.out).1; omega))
                   obtain ⟨ve710_1, rfl, ge710_1⟩ := k40_openM hMe710
                   have hv710_1 := hcc710 1 _ rfl
                   rw [add_field _ _ 1 (by omega)] at hv710_1
                   replace hv710_1 := Option.some.inj (hv710_1.symm.trans hx710_1)
                   rw [hv710_1] at ge710_1
                   have HL710_1 := ra (show Kd.R k95 95 _ _ _ _ ((rd_T40 t687 x5_2).f1) from ge710_1)
                   clear hv710_1 ge710_1
                   clear hcc710 hce710
                   have HR710_1 := Aside0.mk hi710_1
                   have HC710_1 := Aside0.mk hl710_1
                   clear hi710_1 hl710_1
                   replace p710 := eq_true p710
                   replace q710 := eq_true q710
                   go_wp2_with (first | (go_at_call 29; (with_reducible refine (impl_ProbeHappen.calls kj35 _ _ t687 true ((rd_T40 t687 x5_2).f0) _ _ ((rd_T40 t687 x5_2).f1) t711 t714 _ ?side1 ?side2 ?side3 ?side4 A50.out).mono ?_); (case side1 => repeat (first | exact (Kd.S_reads' HO_3.out).2.2 | (with_reducible refine Kd.C_alloc ?_ _) | (with_reducible refine Kd.C_drewN ?_ _) | (with_reducible refine Kd.C_drew ?_))); (case side2 => exact (Kd.S_reads' HO_3.out).2.1); (case side3 => repeat (first | exact (by repeat (first | (with_reducible exact HR710_1.out) | (with_reducible refine Kd.C_alloc ?_ _) | (with_reducible refine Kd.C_drewN ?_ _) | (with_reducible refine Kd.C_drew ?_) | exact HR710_1.out)) | (with_reducible refine Kd.C_alloc ?_ _) | (with_reducible refine Kd.C_drewN ?_ _) | (with_reducible refine Kd.C_drew ?_))); (case side4 => exact HC710_1.out); rintro e w54 ⟨v712, rfl, ho0, hb⟩; have _ := ra (Kd.S_elder' (by (with_reducible repeat (first | apply Kd.S_alloc | apply Kd.S_drewN | apply Kd.S_drew)); exact HO_3.out) (Kd.S_base ho0) hb); have _ := ra (Kd.R_below (rq HO_4) hb); have _ := ra (Kd.R_below (by (with_reducible repeat (first | apply Kd.R_alloc | apply Kd.R_drewN | apply Kd.R_drew)); exact HL710_1.out) hb); have _ := ra (Kd.S_lower (Kd.S_new' (Kd.S_new' ho0 (Kd.S_lt (by (with_reducible repeat (first | apply Kd.S_alloc | apply Kd.S_drewN | apply Kd.S_drew)); exact HO_3.out))) (Kd.R_lt (by (with_reducible repeat (first | apply Kd.R_alloc | apply Kd.R_drewN | apply Kd.R_drew)); exact HL710_1.out))) (below_size bq)); have _ := ra (Kd.C_below (by repeat (first | (with_reducible exact HR710_1.out) | (with_reducible refine Kd.C_alloc ?_ _) | (with_reducible refine Kd.C_drewN ?_ _) | (with_reducible refine Kd.C_drew ?_) | exact HR710_1.out)) hb); have _ := bs hb; clear HO_3 HO_4 HL710_1 HR710_1 HB; rename_i HO_3 HO_4 HL710_1 HO713 HR710_1 HB; (try clear hb); (try clear hb2); (try clear hk); (try clear hi); (try clear ho0); obtain ⟨Ao55, co55, eo55⟩ := Kd.S_slice HO713.out; subst eo55) | (go_at_call 12; (with_reducible refine (impl_ProbeAll.calls kj35 _ _ t711 t715 _ ?side1 ?side2 A52.out).mono ?_); (case side1 => repeat (first | exact (Kd.S_reads' HO713.out).2.2 | (with_reducible refine Kd.C_alloc ?_ _) | (with_reducible refine Kd.C_drewN ?_ _) | (with_reducible refine Kd.C_drew ?_))); (case side2 => exact (Kd.S_reads' HO713.out).2.1); rintro e w56 ⟨v716, rfl, ho0, hb⟩; have _ := ra (Kd.S_below (by (with_reducible repeat (first | apply Kd.S_alloc | apply Kd.S_drewN | apply Kd.S_drew)); exact HO_3.out) hb); have _ := ra (Kd.R_elder' (rq HO_4) (Kd.R_base ho0) hb); have _ := ra (Kd.R_below (by (with_reducible repeat (first | apply Kd.R_alloc | apply Kd.R_drewN | apply Kd.R_drew)); exact HL710_1.out) hb); have _ := ra (Kd.S_below (by (with_reducible repeat (first | apply Kd.S_alloc | apply Kd.S_drewN | apply Kd.S_drew)); exact HO713.out) hb); have _ := ra (Kd.R_lower (Kd.R_new' ho0 (Kd.R_lt (rq HO_4))) (below_size bq)); have _ := ra (Kd.C_below (by repeat (first | (with_reducible exact HR710_1.out) | (with_reducible refine Kd.C_alloc ?_ _) | (with_reducible refine Kd.C_drewN ?_ _) | (with_reducible refine Kd.C_drew ?_) | exact HR710_1.out)) hb); have _ := bs hb; clear HO_3 HO_4 HL710_1 HO713 HR710_1 HB; rename_i HO_3 HO_4 HL710_1 HO713 HO717 HR710_1 HB; (try clear hb); (try clear hb2); (try clear hk); (try clear hi); (try clear ho0); obtain ⟨Ao57, co57, eo57⟩ := Kd.R_slice HO717.out; subst eo57))
                   repeat (go_quiet (first | (go_at_call 29; (with_reducible refine (impl_ProbeHappen.calls kj35 _ _ t687 true ((rd_T40 t687 x5_2).f0) _ _ ((rd_T40 t687 x5_2).f1) t711 t714 _ ?side1 ?side2 ?side3 ?side4 A50.out).mono ?_); (case side1 => repeat (first | exact (Kd.S_reads' HO_3.out).2.2 | (with_reducible refine Kd.C_alloc ?_ _) | (with_reducible refine Kd.C_drewN ?_ _) | (with_reducible refine Kd.C_drew ?_))); (case side2 => exact (Kd.S_reads' HO_3.out).2.1); (case side3 => repeat (first | exact (by repeat (first | (with_reducible exact HR710_1.out) | (with_reducible refine Kd.C_alloc ?_ _) | (with_reducible refine Kd.C_drewN ?_ _) | (with_reducible refine Kd.C_drew ?_) | exact HR710_1.out)) | (with_reducible refine Kd.C_alloc ?_ _) | (with_reducible refine Kd.C_drewN ?_ _) | (with_reducible refine Kd.C_drew ?_))); (case side4 => exact HC710_1.out); rintro e w54 ⟨v712, rfl, ho0, hb⟩; have _ := ra (Kd.S_elder' (by (with_reducible repeat (first | apply Kd.S_alloc | apply Kd.S_drewN | apply Kd.S_drew)); exact HO_3.out) (Kd.S_base ho0) hb); have _ := ra (Kd.R_below (rq HO_4) hb); have _ := ra (Kd.R_below (by (with_reducible repeat (first | apply Kd.R_alloc | apply Kd.R_drewN | apply Kd.R_drew)); exact HL710_1.out) hb); have _ := ra (Kd.S_lower (Kd.S_new' (Kd.S_new' ho0 (Kd.S_lt (by (with_reducible repeat (first | apply Kd.S_alloc | apply Kd.S_drewN | apply Kd.S_drew)); exact HO_3.out))) (Kd.R_lt (by (with_reducible repeat (first | apply Kd.R_alloc | apply Kd.R_drewN | apply Kd.R_drew)); exact HL710_1.out))) (below_size bq)); have _ := ra (Kd.C_below (by repeat (first | (with_reducible exact HR710_1.out) | (with_reducible refine Kd.C_alloc ?_ _) | (with_reducible refine Kd.C_drewN ?_ _) | (with_reducible refine Kd.C_drew ?_) | exact HR710_1.out)) hb); have _ := bs hb; clear HO_3 HO_4 HL710_1 HR710_1 HB; rename_i HO_3 HO_4 HL710_1 HO713 HR710_1 HB; (try clear hb); (try clear hb2); (try clear hk); (try clear hi); (try clear ho0); obtain ⟨Ao55, co55, eo55⟩ := Kd.S_slice HO713.out; subst eo55) | (go_at_call 12; (with_reducible refine (impl_ProbeAll.calls kj35 _ _ t711 t715 _ ?side1 ?side2 A52.out).mono ?_); (case side1 => repeat (first | exact (Kd.S_reads' HO713.out).2.2 | (with_reducible refine Kd.C_alloc ?_ _) | (with_reducible refine Kd.C_drewN ?_ _) | (with_reducible refine Kd.C_drew ?_))); (case side2 => exact (Kd.S_reads' HO713.out).2.1); rintro e w56 ⟨v716, rfl, ho0, hb⟩; have _ := ra (Kd.S_below (by (with_reducible repeat (first | apply Kd.S_alloc | apply Kd.S_drewN | apply Kd.S_drew)); exact HO_3.out) hb); have _ := ra (Kd.R_elder' (rq HO_4) (Kd.R_base ho0) hb); have _ := ra (Kd.R_below (by (with_reducible repeat (first | apply Kd.R_alloc | apply Kd.R_drewN | apply Kd.R_drew)); exact HL710_1.out) hb); have _ := ra (Kd.S_below (by (with_reducible repeat (first | apply Kd.S_alloc | apply Kd.S_drewN | apply Kd.S_drew)); exact HO713.out) hb); have _ := ra (Kd.R_lower (Kd.R_new' ho0 (Kd.R_lt (rq HO_4))) (below_size bq)); have _ := ra (Kd.C_below (by repeat (first | (with_reducible exact HR710_1.out) | (with_reducible refine Kd.C_alloc ?_ _) | (with_reducible refine Kd.C_drewN ?_ _) | (with_reducible refine Kd.C_drew ?_) | exact HR710_1.out)) hb); have _ := bs hb; clear HO_3 HO_4 HL710_1 HO713 HR710_1 HB; rename_i HO_3 HO_4 HL710_1 HO713 HO717 HR710_1 HB; (try clear hb); (try clear hb2); (try clear hk); (try clear hi); (try clear ho0); obtain ⟨Ao57, co57, eo57⟩ := Kd.R_slice HO717.out; subst eo57)); try go_wp2_with (first | (go_at_call 29; (with_reducible refine (impl_ProbeHappen.calls kj35 _ _ t687 true ((rd_T40 t687 x5_2).f0) _ _ ((rd_T40 t687 x5_2).f1) t711 t714 _ ?side1 ?side2 ?side3 ?side4 A50.out).mono ?_); (case side1 => repeat (first | exact (Kd.S_reads' HO_3.out).2.2 | (with_reducible refine Kd.C_alloc ?_ _) | (with_reducible refine Kd.C_drewN ?_ _) | (with_reducible refine Kd.C_drew ?_))); (case side2 => exact (Kd.S_reads' HO_3.out).2.1); (case side3 => repeat (first | exact (by repeat (first | (with_reducible exact HR710_1.out) | (with_reducible refine Kd.C_alloc ?_ _) | (with_reducible refine Kd.C_drewN ?_ _) | (with_reducible refine Kd.C_drew ?_) | exact HR710_1.out)) | (with_reducible refine Kd.C_alloc ?_ _) | (with_reducible refine Kd.C_drewN ?_ _) | (with_reducible refine Kd.C_drew ?_))); (case side4 => exact HC710_1.out); rintro e w54 ⟨v712, rfl, ho0, hb⟩; have _ := ra (Kd.S_elder' (by (with_reducible repeat (first | apply Kd.S_alloc | apply Kd.S_drewN | apply Kd.S_drew)); exact HO_3.out) (Kd.S_base ho0) hb); have _ := ra (Kd.R_below (rq HO_4) hb); have _ := ra (Kd.R_below (by (with_reducible repeat (first | apply Kd.R_alloc | apply Kd.R_drewN | apply Kd.R_drew)); exact HL710_1.out) hb); have _ := ra (Kd.S_lower (Kd.S_new' (Kd.S_new' ho0 (Kd.S_lt (by (with_reducible repeat (first | apply Kd.S_alloc | apply Kd.S_drewN | apply Kd.S_drew)); exact HO_3.out))) (Kd.R_lt (by (with_reducible repeat (first | apply Kd.R_alloc | apply Kd.R_drewN | apply Kd.R_drew)); exact HL710_1.out))) (below_size bq)); have _ := ra (Kd.C_below (by repeat (first | (with_reducible exact HR710_1.out) | (with_reducible refine Kd.C_alloc ?_ _) | (with_reducible refine Kd.C_drewN ?_ _) | (with_reducible refine Kd.C_drew ?_) | exact HR710_1.out)) hb); have _ := bs hb; clear HO_3 HO_4 HL710_1 HR710_1 HB; rename_i HO_3 HO_4 HL710_1 HO713 HR710_1 HB; (try clear hb); (try clear hb2); (try clear hk); (try clear hi); (try clear ho0); obtain ⟨Ao55, co55, eo55⟩ := Kd.S_slice HO713.out; subst eo55) | (go_at_call 12; (with_reducible refine (impl_ProbeAll.calls kj35 _ _ t711 t715 _ ?side1 ?side2 A52.out).mono ?_); (case side1 => repeat (first | exact (Kd.S_reads' HO713.out).2.2 | (with_reducible refine Kd.C_alloc ?_ _) | (with_reducible refine Kd.C_drewN ?_ _) | (with_reducible refine Kd.C_drew ?_))); (case side2 => exact (Kd.S_reads' HO713.out).2.1); rintro e w56 ⟨v716, rfl, ho0, hb⟩; have _ := ra (Kd.S_below (by (with_reducible repeat (first | apply Kd.S_alloc | apply Kd.S_drewN | apply Kd.S_drew)); exact HO_3.out) hb); have _ := ra (Kd.R_elder' (rq HO_4) (Kd.R_base ho0) hb); have _ := ra (Kd.R_below (by (with_reducible repeat (first | apply Kd.R_alloc | apply Kd.R_drewN | apply Kd.R_drew)); exact HL710_1.out) hb); have _ := ra (Kd.S_below (by (with_reducible repeat (first | apply Kd.S_alloc | apply Kd.S_drewN | apply Kd.S_drew)); exact HO713.out) hb); have _ := ra (Kd.R_lower (Kd.R_new' ho0 (Kd.R_lt (rq HO_4))) (below_size bq)); have _ := ra (Kd.C_below (by repeat (first | (with_reducible exact HR710_1.out) | (with_reducible refine Kd.C_alloc ?_ _) | (with_reducible refine Kd.C_drewN ?_ _) | (with_reducible refine Kd.C_drew ?_) | exact HR710_1.out)) hb); have _ := bs hb; clear HO_3 HO_4 HL710_1 HO713 HR710_1 HB; rename_i HO_3 HO_4 HL710_1 HO713 HO717 HR710_1 HB; (try clear hb); (try clear hb2); (try clear hk); (try clear hi); (try clear ho0); obtain ⟨Ao57, co57, eo57⟩ := Kd.R_slice HO717.out; subst eo57)))
                   go_roundg kj35
                   case measure => have := HJ4.out; have := HK2.out; have := HK3.out; have := HJ35.out; omega
                   case rel => exact ⟨(wrap64 (x5_2 + 1)), rs, H', ⟨by have := HJ4.out; have := HK2.out; have := HK3.out; have := HJ35.out; omega⟩, ⟨by (with_reducible repeat (first | apply Kd.S_alloc | apply Kd.S_drewN | apply Kd.S_drew)); exact Kd.S_mono HO_3.out (fun _ hk => trivial)⟩, ⟨by (with_reducible repeat (first | apply Kd.R_alloc | apply Kd.R_drewN | apply Kd.R_drew)); exact Kd.R_mono HO_4.out (fun _ hk => trivial)⟩, ⟨bq⟩⟩
                  ·rw [if_neg c53] at H
                   exact absurd (Option.some.inj H) (by decide)
                 ·rw [if_neg c51] at H
                  exact absurd (Option.some.inj H) (by decide)
                ·rw [if_neg c49] at H
                 exact absurd H (by simp)
               ·rw [if_neg c48] at H
                exact absurd H (by simp)
        ·rw [if_neg c26] at H
         have c26b0 : decide (x5_2 < (t687.length : Int)) = false := decide_eq_false c26
         clear c26 H
         go_wp2
         repeat (go_quiet (fail); try go_wp2)
         go_ret
         exact ⟨re, bq⟩
     ·replace c24 := Bool.eq_false_iff.mpr c24
      subst c24
      have H1 : (some ((t690.length : Int) == 0)) = some true := by rw [if_neg (show ¬ (false = true) by decide)] at H; exact H
      clear H
      have H := H1
      clear H1
      have HV_ : (t690.length : Int) = 0 := by simpa using Option.some.inj H
      go_wp2_with (first | (go_at_call 27; (with_reducible refine (spec_ProbeSkyOk.calls kj4 _ _ t687 false _ ?side1 ?side2 A23.out).mono ?_); (case side1 => repeat (first | exact (Kd.S_reads' HO_3.out).2.2 | (with_reducible refine Kd.C_alloc ?_ _) | (with_reducible refine Kd.C_drewN ?_ _) | (with_reducible refine Kd.C_drew ?_))); (case side2 => exact (Kd.S_reads' HO_3.out).2.1); rintro e w63 ⟨rfl, hb⟩; have _ := ra (Kd.S_below (by (with_reducible repeat (first | apply Kd.S_alloc | apply Kd.S_drewN | apply Kd.S_drew)); exact HO_3.out) hb); have _ := ra (Kd.R_below (rq HO_4) hb); have _ := bs hb; clear HO_3 HO_4 HB; rename_i HO_3 HO_4 HB; (try clear hb); (try clear hb2); (try clear hk); (try clear hi); obtain ⟨Ao64, co64, eo64⟩ := Kd.R_slice HO_4.out; subst eo64))
      repeat (go_quiet (first | (go_at_call 27; (with_reducible refine (spec_ProbeSkyOk.calls kj4 _ _ t687 false _ ?side1 ?side2 A23.out).mono ?_); (case side1 => repeat (first | exact (Kd.S_reads' HO_3.out).2.2 | (with_reducible refine Kd.C_alloc ?_ _) | (with_reducible refine Kd.C_drewN ?_ _) | (with_reducible refine Kd.C_drew ?_))); (case side2 => exact (Kd.S_reads' HO_3.out).2.1); rintro e w63 ⟨rfl, hb⟩; have _ := ra (Kd.S_below (by (with_reducible repeat (first | apply Kd.S_alloc | apply Kd.S_drewN | apply Kd.S_drew)); exact HO_3.out) hb); have _ := ra (Kd.R_below (rq HO_4) hb); have _ := bs hb; clear HO_3 HO_4 HB; rename_i HO_3 HO_4 HB; (try clear hb); (try clear hb2); (try clear hk); (try clear hi); obtain ⟨Ao64, co64, eo64⟩ := Kd.R_slice HO_4.out; subst eo64)); try go_wp2_with (first | (go_at_call 27; (with_reducible refine (spec_ProbeSkyOk.calls kj4 _ _ t687 false _ ?side1 ?side2 A23.out).mono ?_); (case side1 => repeat (first | exact (Kd.S_reads' HO_3.out).2.2 | (with_reducible refine Kd.C_alloc ?_ _) | (with_reducible refine Kd.C_drewN ?_ _) | (with_reducible refine Kd.C_drew ?_))); (case side2 => exact (Kd.S_reads' HO_3.out).2.1); rintro e w63 ⟨rfl, hb⟩; have _ := ra (Kd.S_below (by (with_reducible repeat (first | apply Kd.S_alloc | apply Kd.S_drewN | apply Kd.S_drew)); exact HO_3.out) hb); have _ := ra (Kd.R_below (rq HO_4) hb); have _ := bs hb; clear HO_3 HO_4 HB; rename_i HO_3 HO_4 HB; (try clear hb); (try clear hb2); (try clear hk); (try clear hi); obtain ⟨Ao64, co64, eo64⟩ := Kd.R_slice HO_4.out; subst eo64)))
      go_ret
      exact ⟨by simp [HV_], bq⟩
end Go.Proofs.Ytdbomnhdpniigaa.PA
