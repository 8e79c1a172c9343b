/- Contracts of the functions laws_FnExactProbeAll. (Began as a print of the kit's tool.) -/
import Derived.Test.YtdbomnhdpniigaaPAd
import Derived.Test.YtdbomnhdpniigaaCx
import Derived.Test.YtdbomnhdpniigaaCm
import Derived.Test.YtdbomnhdpniigaaGConvs
import Derived.Test.YtdbomnhdpniigaaGConvs
import Derived.Test.YtdbomnhdpniigaaGAllS
import Derived.Test.YtdbomnhdpniigaaGAll
import Derived.Test.YtdbomnhdpniigaaGClash
import Derived.Test.YtdbomnhdpniigaaGConvs
import Derived.Test.YtdbomnhdpniigaaGMarks
import Derived.Test.YtdbomnhdpniigaaGClash
import Derived.Test.YtdbomnhdpniigaaGClash
namespace Go.Proofs.Ytdbomnhdpniigaa.PA
open Go.RowKit Go.Proofs.YtdbomnhdpniigaaW.PrintWords Go.Proofs.YtdbomnhdpniigaaW.PrintLast Go.Proofs.YtdbomnhdpniigaaW.PrintMore Go.Proofs.Ytdbomnhdpniigaa.Z
attribute [local go_sem] max2_int min2_int max_two min_two max_three min_three max_four min_four
set_option linter.unusedVariables false
set_option linter.unusedSimpArgs false
set_option maxHeartbeats 8000000 in
set_option maxRecDepth 100000 in
theorem laws_FnExactProbeAll.calls (k : Nat) (A0 : Option Addr) (c0 : Nat) (l0 : List (S35)) (w : World) (hr0 : Kd.C k35 w A0 l0.length l0) (hc0 : l0.length ≤ c0) (h : laws_FnExactProbeAll.f k l0 = some true) :
  Calls Try.prog 3 #[.slice A0 l0.length c0] w fun e w' => e = .returned (.bool true) ∧ Below w.heap.size w w' := by
 have HR0 := Aside0.mk hr0
 have HC0 := Aside0.mk hc0
 clear hr0 hc0
 have HB := ra (Below.refl w.heap.size w)
 have H : ((laws_szProbeTubeS.f k l0 1048576).bind fun t271 => (if t271 < 0 then (some true) else ((laws_toProbeTubeS.f k l0).bind fun t272 => ((spec_ProbeAll.f k t272).bind fun t275 => ((laws_toProbeTubeS.f k l0).bind fun t278 => ((impl_ProbeAll.f k t278).bind fun t281 => ((laws_eqProbeClashS.f k t281 t275).bind fun t284 => (if t284 = true then ((laws_toProbeTubeS.f k l0).bind fun t285 => ((laws_eqProbeTubeS.f k t278 t285).bind fun t288 => (if t288 = true then ((laws_markProbeTubeS.f k t278 1).bind fun bt289 => (if bt289.1 < 0 then (laws_FnExactProbeAll.j0 k l0 t275 t281 true) else ((laws_eqProbeClashS.f k t281 t275).bind fun t291 => (laws_FnExactProbeAll.j0 k l0 t275 t281 (!t291))))) else (some false)))) else (some false))))))))) = some true := h
 clear h
 obtain ⟨t271, A2, H⟩ := bo H
 by_cases c3 : t271 < 0
 ·rw [if_pos c3] at H
  have c3b0 : decide (t271 < 0) = true := decide_eq_true c3
  clear c3 H
  go_enter Try.func3, Try.ntmps3
  go_wp2_with (first | ((with_reducible refine gate_callee (f := 9) rfl ?_); refine gl (some 13) Try.func9 #[.slice A0 l0.length c0, .int .i64 1048576] ?_; (with_reducible refine (laws_szProbeTubeS.calls k _ _ l0 1048576 t271 _ ?side1 ?side2 A2.out).mono ?_); (case side1 => repeat (first | exact HR0.out | (with_reducible refine Kd.C_alloc ?_ _) | (with_reducible refine Kd.C_drewN ?_ _) | (with_reducible refine Kd.C_drew ?_))); (case side2 => exact HC0.out); rintro e w4 ⟨rfl, hb⟩; refine ⟨_, rfl, ?_⟩; have _ := bs hb; clear HB; rename_i HB; (try clear hb); (try clear hb2); (try clear hk); (try clear hi)))
  go_ret
  exact ⟨re, bq⟩
 ·rw [if_neg c3] at H
  have c3b0 : decide (t271 < 0) = false := decide_eq_false c3
  clear c3
  obtain ⟨t272, A5, H⟩ := bo H
  obtain ⟨t275, A6, H⟩ := bo H
  obtain ⟨t278, A7, H⟩ := bo H
  obtain ⟨t281, A8, H⟩ := bo H
  obtain ⟨t284, A9, H⟩ := bo H
  by_cases c10 : t284 = true
  ·subst c10
   replace H := it H rfl
   obtain ⟨t285, A11, H⟩ := bo H
   obtain ⟨t288, A12, H⟩ := bo H
   by_cases c13 : t288 = true
   ·subst c13
    replace H := it H rfl
    obtain ⟨⟨t289, t290⟩, A14, H⟩ := bo H
    try dsimp only at H
    have HC15 := Aside0.mk H
    clear H
    go_enter Try.func3, Try.ntmps3
    go_upto_region 14 with (first | ((with_reducible refine gate_callee (f := 9) rfl ?_); refine gl (some 13) Try.func9 #[.slice A0 l0.length c0, .int .i64 1048576] ?_; (with_reducible refine (laws_szProbeTubeS.calls k _ _ l0 1048576 t271 _ ?side1 ?side2 A2.out).mono ?_); (case side1 => repeat (first | exact HR0.out | (with_reducible refine Kd.C_alloc ?_ _) | (with_reducible refine Kd.C_drewN ?_ _) | (with_reducible refine Kd.C_drew ?_))); (case side2 => exact HC0.out); rintro e w16 ⟨rfl, hb⟩; refine ⟨_, rfl, ?_⟩; have _ := bs hb; clear HB; rename_i HB; (try clear hb); (try clear hb2); (try clear hk); (try clear hi)) | ((with_reducible refine gate_callee (f := 11) rfl ?_); refine gl (some 17) Try.func11 #[.slice A0 l0.length c0] ?_; (with_reducible refine (laws_toProbeTubeS.calls k _ _ l0 t272 _ ?side1 ?side2 A5.out).mono ?_); (case side1 => exact sc HR0); (case side2 => exact HC0.out); rintro e w17 ⟨v273, rfl, ho0, hb⟩; refine ⟨_, rfl, ?_⟩; have _ := ra (Kd.S_lower ho0 (below_size bq)); have _ := bs hb; clear HB; rename_i HO274 HB; (try clear hb); (try clear hb2); (try clear hk); (try clear hi); (try clear ho0); obtain ⟨Ao18, co18, eo18⟩ := Kd.S_slice HO274.out; subst eo18) | ((with_reducible refine gate_callee (f := 10) rfl ?_); refine gl (some 18) Try.func10 #[.slice Ao18 t272.length co18] ?_; (with_reducible refine (spec_ProbeAll.calls k _ _ t272 t275 _ ?side1 ?side2 A6.out).mono ?_); (case side1 => repeat (first | exact (Kd.S_reads' HO274.out).2.2 | (with_reducible refine Kd.C_alloc ?_ _) | (with_reducible refine Kd.C_drewN ?_ _) | (with_reducible refine Kd.C_drew ?_))); (case side2 => exact (Kd.S_reads' HO274.out).2.1); rintro e w19 ⟨v276, rfl, ho0, hb⟩; refine ⟨_, rfl, ?_⟩; have _ := ra (Kd.S_below (by (with_reducible repeat (first | apply Kd.S_alloc | apply Kd.S_drewN | apply Kd.S_drew)); exact HO274.out) hb); have _ := ra (Kd.R_lower ho0 (below_size bq)); have _ := bs hb; clear HO274 HB; rename_i HO274 HO277 HB; (try clear hb); (try clear hb2); (try clear hk); (try clear hi); (try clear ho0)) | ((with_reducible refine gate_callee (f := 11) rfl ?_); refine gl (some 20) Try.func11 #[.slice A0 l0.length c0] ?_; (with_reducible refine (laws_toProbeTubeS.calls k _ _ l0 t278 _ ?side1 ?side2 A7.out).mono ?_); (case side1 => exact sc HR0); (case side2 => exact HC0.out); rintro e w20 ⟨v279, rfl, ho0, hb⟩; refine ⟨_, rfl, ?_⟩; have _ := ra (Kd.S_elder' (by (with_reducible repeat (first | apply Kd.S_alloc | apply Kd.S_drewN | apply Kd.S_drew)); exact HO274.out) (Kd.S_base ho0) hb); have _ := ra (Kd.R_below (rq HO277) hb); have _ := ra (Kd.S_lower (Kd.S_new' ho0 (Kd.S_lt (by (with_reducible repeat (first | apply Kd.S_alloc | apply Kd.S_drewN | apply Kd.S_drew)); exact HO274.out))) (below_size bq)); have _ := bs hb; clear HO274 HO277 HB; rename_i HO274 HO277 HO280 HB; (try clear hb); (try clear hb2); (try clear hk); (try clear hi); (try clear ho0); obtain ⟨Ao21, co21, eo21⟩ := Kd.S_slice HO280.out; subst eo21) | ((with_reducible refine gate_callee (f := 12) rfl ?_); refine gl (some 22) Try.func12 #[.slice Ao21 t278.length co21] ?_; (with_reducible refine (impl_ProbeAll.calls k _ _ t278 t281 _ ?side1 ?side2 A8.out).mono ?_); (case side1 => repeat (first | exact (Kd.S_reads' HO280.out).2.2 | (with_reducible refine Kd.C_alloc ?_ _) | (with_reducible refine Kd.C_drewN ?_ _) | (with_reducible refine Kd.C_drew ?_))); (case side2 => exact (Kd.S_reads' HO280.out).2.1); rintro e w22 ⟨v282, rfl, ho0, hb⟩; refine ⟨_, rfl, ?_⟩; have _ := ra (Kd.S_below (by (with_reducible repeat (first | apply Kd.S_alloc | apply Kd.S_drewN | apply Kd.S_drew)); exact HO274.out) hb); have _ := ra (Kd.R_elder' (rq HO277) (Kd.R_base ho0) hb); have _ := ra (Kd.S_below (by (with_reducible repeat (first | apply Kd.S_alloc | apply Kd.S_drewN | apply Kd.S_drew)); exact HO280.out) hb); have _ := ra (Kd.R_lower (Kd.R_new' ho0 (Kd.R_lt (rq HO277))) (below_size bq)); have _ := bs hb; clear HO274 HO277 HO280 HB; rename_i HO274 HO277 HO280 HO283 HB; (try clear hb); (try clear hb2); (try clear hk); (try clear hi); (try clear ho0); obtain ⟨Ao23, co23, eo23⟩ := Kd.R_slice HO283.out; subst eo23; obtain ⟨Ao24, co24, eo24⟩ := Kd.R_slice HO277.out; subst eo24) | ((with_reducible refine gate_callee (f := 13) rfl ?_); refine gl (some 25) Try.func13 #[.slice Ao23 t281.length co23, .slice Ao24 t275.length co24] ?_; (with_reducible refine (laws_eqProbeClashS.calls k _ _ t281 _ _ t275 true _ ?side1 ?side2 ?side3 ?side4 A9.out).mono ?_); (case side1 => exact sr HO283); (case side2 => exact (Kd.R_reads' HO283.out).2.1); (case side3 => exact sr HO277); (case side4 => exact (Kd.R_reads' HO277.out).2.1); rintro e w25 ⟨rfl, hb⟩; refine ⟨_, rfl, ?_⟩; have _ := ra (Kd.S_below (by (with_reducible repeat (first | apply Kd.S_alloc | apply Kd.S_drewN | apply Kd.S_drew)); exact HO274.out) hb); have _ := ra (Kd.R_below (rq HO277) hb); have _ := ra (Kd.S_below (by (with_reducible repeat (first | apply Kd.S_alloc | apply Kd.S_drewN | apply Kd.S_drew)); exact HO280.out) hb); have _ := ra (Kd.R_below (rq HO283) hb); have _ := bs hb; clear HO274 HO277 HO280 HO283 HB; rename_i HO274 HO277 HO280 HO283 HB; (try clear hb); (try clear hb2); (try clear hk); (try clear hi)) | ((with_reducible refine gate_callee (f := 11) rfl ?_); refine gl (some 29) Try.func11 #[.slice A0 l0.length c0] ?_; (with_reducible refine (laws_toProbeTubeS.calls k _ _ l0 t285 _ ?side1 ?side2 A11.out).mono ?_); (case side1 => exact sc HR0); (case side2 => exact HC0.out); rintro e w26 ⟨v286, rfl, ho0, hb⟩; refine ⟨_, rfl, ?_⟩; have _ := ra (Kd.S_elder' (by (with_reducible repeat (first | apply Kd.S_alloc | apply Kd.S_drewN | apply Kd.S_drew)); exact HO274.out) (Kd.S_base ho0) hb); have _ := ra (Kd.R_below (rq HO277) hb); have _ := ra (Kd.S_elder' (by (with_reducible repeat (first | apply Kd.S_alloc | apply Kd.S_drewN | apply Kd.S_drew)); exact HO280.out) (Kd.S_base ho0) hb); have _ := ra (Kd.R_below (rq HO283) hb); have _ := ra (Kd.S_lower (Kd.S_new' (Kd.S_new' ho0 (Kd.S_lt (by (with_reducible repeat (first | apply Kd.S_alloc | apply Kd.S_drewN | apply Kd.S_drew)); exact HO274.out))) (Kd.S_lt (by (with_reducible repeat (first | apply Kd.S_alloc | apply Kd.S_drewN | apply Kd.S_drew)); exact HO280.out))) (below_size bq)); have _ := bs hb; clear HO274 HO277 HO280 HO283 HB; rename_i HO274 HO277 HO280 HO283 HO287 HB; (try clear hb); (try clear hb2); (try clear hk); (try clear hi); (try clear ho0); obtain ⟨Ao27, co27, eo27⟩ := Kd.S_slice HO287.out; subst eo27) | ((with_reducible refine gate_callee (f := 14) rfl ?_); refine gl (some 30) Try.func14 #[.slice Ao21 t278.length co21, .slice Ao27 t285.length co27] ?_; (with_reducible refine (laws_eqProbeTubeS.calls k _ _ t278 _ _ t285 true _ ?side1 ?side2 ?side3 ?side4 A12.out).mono ?_); (case side1 => repeat (first | exact (Kd.S_reads' HO280.out).2.2 | (with_reducible refine Kd.C_alloc ?_ _) | (with_reducible refine Kd.C_drewN ?_ _) | (with_reducible refine Kd.C_drew ?_))); (case side2 => exact (Kd.S_reads' HO280.out).2.1); (case side3 => repeat (first | exact (Kd.S_reads' HO287.out).2.2 | (with_reducible refine Kd.C_alloc ?_ _) | (with_reducible refine Kd.C_drewN ?_ _) | (with_reducible refine Kd.C_drew ?_))); (case side4 => exact (Kd.S_reads' HO287.out).2.1); rintro e w28 ⟨rfl, hb⟩; refine ⟨_, rfl, ?_⟩; have _ := ra (Kd.S_below (by (with_reducible repeat (first | apply Kd.S_alloc | apply Kd.S_drewN | apply Kd.S_drew)); exact HO274.out) hb); have _ := ra (Kd.R_below (rq HO277) hb); have _ := ra (Kd.S_below (by (with_reducible repeat (first | apply Kd.S_alloc | apply Kd.S_drewN | apply Kd.S_drew)); exact HO280.out) hb); have _ := ra (Kd.R_below (rq HO283) hb); have _ := ra (Kd.S_below (by (with_reducible repeat (first | apply Kd.S_alloc | apply Kd.S_drewN | apply Kd.S_drew)); exact HO287.out) hb); have _ := bs hb; clear HO274 HO277 HO280 HO283 HO287 HB; rename_i HO274 HO277 HO280 HO283 HO287 HB; (try clear hb); (try clear hb2); (try clear hk); (try clear hi)) | ((with_reducible refine gate_callee (f := 15) rfl ?_); refine gl (some 34) Try.func15 #[.slice Ao21 t278.length co21, .int .i64 1] ?_; (with_reducible refine (laws_markProbeTubeS.calls k _ (.slice Ao21 t278.length co21) t278 1 t289 t290 w _ ?side1 (Z.S_typ HO280.out) A14.out).mono ?_); (case side1 => repeat (first | (with_reducible first | exact HB.out | apply below_alloc | apply pw_below_drewN | apply below_drew1) | exact HB.out)); rintro e w29 ⟨rfl, hy0, hb, hkp⟩; refine ⟨_, rfl, ?_⟩; have _ := ra (Z.R_keptT (HO277.out) hkp (by decide)); have _ := ra (Z.R_keptT (HO283.out) hkp (by decide)); have _ := ra (hb); clear HO277 HO283 HB HO274 HO280 HO287; rename_i HO277 HO283 HB; (try clear hb); (try clear hkp); (try clear hy0)))
    (try simp only [Act.put, List.setIfInBounds_toArray, List.set_cons_zero, List.set_cons_succ])
    go_cut [42] (fun v42 wc => ∃ (kq : Nat) (x42_14 : Bool), v42 = .bool x42_14 ∧ Aside0 (laws_FnExactProbeAll.j0 kq l0 t275 t281 x42_14 = some true) ∧ Aside0 (kq ≤ k) ∧ Aside0 (Kd.R k49 49 wc w.heap.size (fun k_ => some k_ ≠ ((.slice Ao23 t281.length co23) : Value).ownBlock) (.slice Ao24 t275.length co24) t275) ∧ Aside0 (Kd.R k49 49 wc w.heap.size (fun k_ => some k_ ≠ ((.slice Ao24 t275.length co24) : Value).ownBlock) (.slice Ao23 t281.length co23) t281) ∧ Aside0 (Below w.heap.size w wc))
    case first =>
     have H := HC15.out
     clear HC15
     by_cases c30 : t289 < 0
     ·rw [if_pos c30] at H
      have c30b0 : decide (t289 < 0) = true := decide_eq_true c30
      clear c30
      (first | rw [c30b0] | (simp only [i64_w, i32_w]; rw [c30b0]) | skip)
      have H' := Aside0.mk H
      clear H
      go_wp2
      go_meet
      case rel => exact ⟨_, (true), rs, H', ⟨by first | omega | exact Nat.le_refl _⟩, ⟨by (with_reducible repeat (first | apply Kd.R_alloc | apply Kd.R_drewN | apply Kd.R_drew)); exact Kd.R_mono HO277.out (fun _ hk => hk.2)⟩, ⟨by (with_reducible repeat (first | apply Kd.R_alloc | apply Kd.R_drewN | apply Kd.R_drew)); exact Kd.R_mono HO283.out (fun _ hk => hk.2)⟩, ⟨bq⟩⟩
     ·rw [if_neg c30] at H
      have c30b0 : decide (t289 < 0) = false := decide_eq_false c30
      clear c30
      (first | rw [c30b0] | (simp only [i64_w, i32_w]; rw [c30b0]) | skip)
      obtain ⟨t291, A31, H⟩ := bo H
      have H' := Aside0.mk H
      clear H
      go_wp2_with (first | (go_at_call 13; (with_reducible refine (laws_eqProbeClashS.calls k _ _ t281 _ _ t275 t291 _ ?side1 ?side2 ?side3 ?side4 A31.out).mono ?_); (case side1 => exact sr HO283); (case side2 => exact (Kd.R_reads' HO283.out).2.1); (case side3 => exact sr HO277); (case side4 => exact (Kd.R_reads' HO277.out).2.1); rintro e w32 ⟨rfl, hb⟩; have _ := ra (Kd.R_below (rq HO277) hb); have _ := ra (Kd.R_below (rq HO283) hb); have _ := bs hb; clear HO277 HO283 HB; rename_i HO277 HO283 HB; (try clear hb); (try clear hb2); (try clear hk); (try clear hi)))
      go_meet
      case rel => exact ⟨_, (!t291), rs, H', ⟨by first | omega | exact Nat.le_refl _⟩, ⟨by (with_reducible repeat (first | apply Kd.R_alloc | apply Kd.R_drewN | apply Kd.R_drew)); exact Kd.R_mono HO277.out (fun _ hk => hk.2)⟩, ⟨by (with_reducible repeat (first | apply Kd.R_alloc | apply Kd.R_drewN | apply Kd.R_drew)); exact Kd.R_mono HO283.out (fun _ hk => hk.2)⟩, ⟨bq⟩⟩
    case rest =>
     clear HC15
     try clear c3
     try clear c3b0
     try clear c10
     try clear c13
     try clear c30
     try clear c30b0
     obtain ⟨kq, x42_14, rfl, HA, HJ14, HO_4, HO_6, HB⟩ := hcut
     cases kq with
     | zero => exact absurd HA.out (by simp [laws_FnExactProbeAll.j0])
     | succ kj14 =>
      have H := HA.out
      clear HA
      simp only [laws_FnExactProbeAll.j0] at H
      by_cases c33 : x42_14 = true
      ·subst c33
       have H1 : (some false) = some true := by rw [if_pos rfl] at H; exact H
       clear H
       have H := H1
       exact absurd (Option.some.inj H) (by decide)
      ·replace c33 := Bool.eq_false_iff.mpr c33
       subst c33
       have H1 : ((laws_markProbeClashS.f kj14 t281 1).bind fun bt292 => ((laws_heldProbeClashS.f kj14 bt292.2 1).bind fun t294 => (if t294 < 0 then (some false) else (if t294 = bt292.1 then ((laws_toProbeTubeS.f kj14 l0).bind fun t295 => ((impl_ProbeAll.f kj14 t295).bind fun t298 => ((laws_eqProbeClashS.f kj14 t298 t275).bind fun t301 => (if t301 = true then ((laws_heldProbeClashS.f kj14 bt292.2 1).bind fun t302 => (if t302 < 0 then (some false) else (if t302 = bt292.1 then (some true) else (some false)))) else (some false))))) else (some false))))) = some true := by rw [if_neg (show ¬ (false = true) by decide)] at H; exact H
       clear H
       have H := H1
       clear H1
       obtain ⟨⟨t292, t293⟩, A34, H⟩ := bo H
       try dsimp only at H
       obtain ⟨t294, A35, H⟩ := bo H
       by_cases c36 : t294 < 0
       ·rw [if_pos c36] at H
        exact absurd (Option.some.inj H) (by decide)
       ·rw [if_neg c36] at H
        have c36b0 : decide (t294 < 0) = false := decide_eq_false c36
        clear c36
        by_cases c39 : t294 = t292
        ·rw [if_pos c39] at H
         have c39b0 : (t294 == t292) = true := beq_iff_eq.mpr c39
         have c39b1 : (t294 != t292) = false := bne_eq_false_iff_eq.mpr c39
         clear c39
         obtain ⟨t295, A40, H⟩ := bo H
         obtain ⟨t298, A41, H⟩ := bo H
         obtain ⟨t301, A42, H⟩ := bo H
         by_cases c43 : t301 = true
         ·subst c43
          replace H := it H rfl
          obtain ⟨t302, A44, H⟩ := bo H
          by_cases c45 : t302 < 0
          ·rw [if_pos c45] at H
           exact absurd (Option.some.inj H) (by decide)
          ·rw [if_neg c45] at H
           have c45b0 : decide (t302 < 0) = false := decide_eq_false c45
           clear c45
           by_cases c54 : t302 = t292
           ·rw [if_pos c54] at H
            have c54b0 : (t302 == t292) = true := beq_iff_eq.mpr c54
            have c54b1 : (t302 != t292) = false := bne_eq_false_iff_eq.mpr c54
            clear c54 H
            go_wp2_with (first | ((with_reducible refine gate_callee (f := 16) rfl ?_); refine gl (some 45) Try.func16 #[.slice Ao23 t281.length co23, .int .i64 1] ?_; (with_reducible refine (laws_markProbeClashS.calls kj14 (fun k_ => some k_ = (.slice Ao23 t281.length co23 : Value).ownBlock) (.slice Ao23 t281.length co23) t281 1 t292 t293 w _ ?side1 ?side2 A34.out).mono ?_); (case side1 => repeat (first | (with_reducible first | exact HB.out | apply below_alloc | apply pw_below_drewN | apply below_drew1) | exact HB.out)); (case side2 => exact Kd.R_tight rfl HO_6.out); rintro e w55 ⟨rfl, hy0, hb, hkp⟩; refine ⟨_, rfl, ?_⟩; have _ := ra (Kd.R_mono (ok' := fun k_ => some k_ ≠ (.slice Ao23 t281.length co23 : Value).ownBlock) (Kd.R_keptB (HO_4.out) hkp (fun k_ hk_ hs_ => (hk_) hs_)) (fun k_ hk_ => hk_.1)); have _ := ra (Kd.R_reok rfl hy0 (fun k_ e_ => HO_6.out.1 k_ e_)); have _ := ra (hb); clear HO_4 HO_6 HB; rename_i HO_4 HO_6 HB; (try clear hb); (try clear hkp); (try clear hy0)) | ((with_reducible refine gate_callee (f := 17) rfl ?_); refine goesL_ (some 48) rfl rfl Try.func17 (by kernel_rfl) rfl #[.slice Ao23 t293.length co23, .int .i64 1] rfl (by (try simp only [List.map_toArray, List.map_cons, List.map_nil]); first | done | (rw [show t293.length = t281.length from (Kd.R_reads' HO_6.out).1.symm] <;> rfl) | rfl | (simp only [List.length_drop, List.length_take]; rfl)) ?_; (with_reducible refine (laws_heldProbeClashS.calls kj14 _ _ t293 1 t294 _ ?side1 ?side2 A35.out).mono ?_); (case side1 => exact sr HO_6); (case side2 => rw [show t293.length = t281.length from (Kd.R_reads' HO_6.out).1.symm]; exact (Kd.R_reads' HO_6.out).2.1); rintro e w56 ⟨rfl, hb⟩; refine ⟨_, rfl, ?_⟩; have _ := ra (Kd.R_below (rq HO_4) hb); have _ := ra (Kd.R_below (rq HO_6) hb); have _ := bs hb; clear HO_4 HO_6 HB; rename_i HO_4 HO_6 HB; (try clear hb); (try clear hb2); (try clear hk); (try clear hi)) | ((with_reducible refine gate_callee (f := 11) rfl ?_); refine gl (some 55) Try.func11 #[.slice A0 l0.length c0] ?_; (with_reducible refine (laws_toProbeTubeS.calls kj14 _ _ l0 t295 _ ?side1 ?side2 A40.out).mono ?_); (case side1 => exact sc HR0); (case side2 => exact HC0.out); rintro e w57 ⟨v296, rfl, ho0, hb⟩; refine ⟨_, rfl, ?_⟩; have _ := ra (Kd.R_below (rq HO_4) hb); have _ := ra (Kd.R_below (rq HO_6) hb); have _ := ra (Kd.S_lower ho0 (below_size bq)); have _ := bs hb; clear HO_4 HO_6 HB; rename_i HO_4 HO_6 HO297 HB; (try clear hb); (try clear hb2); (try clear hk); (try clear hi); (try clear ho0); obtain ⟨Ao58, co58, eo58⟩ := Kd.S_slice HO297.out; subst eo58) | ((with_reducible refine gate_callee (f := 12) rfl ?_); refine gl (some 56) Try.func12 #[.slice Ao58 t295.length co58] ?_; (with_reducible refine (impl_ProbeAll.calls kj14 _ _ t295 t298 _ ?side1 ?side2 A41.out).mono ?_); (case side1 => repeat (first | exact (Kd.S_reads' HO297.out).2.2 | (with_reducible refine Kd.C_alloc ?_ _) | (with_reducible refine Kd.C_drewN ?_ _) | (with_reducible refine Kd.C_drew ?_))); (case side2 => exact (Kd.S_reads' HO297.out).2.1); rintro e w59 ⟨v299, rfl, ho0, hb⟩; refine ⟨_, rfl, ?_⟩; have _ := ra (Kd.R_elder' (rq HO_4) (Kd.R_base ho0) hb); have _ := ra (Kd.R_elder' (rq HO_6) (Kd.R_base ho0) hb); have _ := ra (Kd.S_below (by (with_reducible repeat (first | apply Kd.S_alloc | apply Kd.S_drewN | apply Kd.S_drew)); exact HO297.out) hb); have _ := ra (Kd.R_lower (Kd.R_new' (Kd.R_new' ho0 (Kd.R_lt (rq HO_4))) (Kd.R_lt (rq HO_6))) (below_size bq)); have _ := bs hb; clear HO_4 HO_6 HO297 HB; rename_i HO_4 HO_6 HO297 HO300 HB; (try clear hb); (try clear hb2); (try clear hk); (try clear hi); (try clear ho0); obtain ⟨Ao60, co60, eo60⟩ := Kd.R_slice HO300.out; subst eo60) | ((with_reducible refine gate_callee (f := 13) rfl ?_); refine gl (some 59) Try.func13 #[.slice Ao60 t298.length co60, .slice Ao24 t275.length co24] ?_; (with_reducible refine (laws_eqProbeClashS.calls kj14 _ _ t298 _ _ t275 true _ ?side1 ?side2 ?side3 ?side4 A42.out).mono ?_); (case side1 => exact sr HO300); (case side2 => exact (Kd.R_reads' HO300.out).2.1); (case side3 => exact sr HO_4); (case side4 => exact (Kd.R_reads' HO_4.out).2.1); rintro e w61 ⟨rfl, hb⟩; refine ⟨_, rfl, ?_⟩; have _ := ra (Kd.R_below (rq HO_4) hb); have _ := ra (Kd.R_below (rq HO_6) hb); have _ := ra (Kd.S_below (by (with_reducible repeat (first | apply Kd.S_alloc | apply Kd.S_drewN | apply Kd.S_drew)); exact HO297.out) hb); have _ := ra (Kd.R_below (rq HO300) hb); have _ := bs hb; clear HO_4 HO_6 HO297 HO300 HB; rename_i HO_4 HO_6 HO297 HO300 HB; (try clear hb); (try clear hb2); (try clear hk); (try clear hi)) | ((with_reducible refine gate_callee (f := 17) rfl ?_); refine goesL_ (some 63) rfl rfl Try.func17 (by kernel_rfl) rfl #[.slice Ao23 t293.length co23, .int .i64 1] rfl (by (try simp only [List.map_toArray, List.map_cons, List.map_nil]); first | done | (rw [show t293.length = t281.length from (Kd.R_reads' HO_6.out).1.symm] <;> rfl) | rfl | (simp only [List.length_drop, List.length_take]; rfl)) ?_; (with_reducible refine (laws_heldProbeClashS.calls kj14 _ _ t293 1 t302 _ ?side1 ?side2 A44.out).mono ?_); (case side1 => exact sr HO_6); (case side2 => rw [show t293.length = t281.length from (Kd.R_reads' HO_6.out).1.symm]; exact (Kd.R_reads' HO_6.out).2.1); rintro e w62 ⟨rfl, hb⟩; refine ⟨_, rfl, ?_⟩; have _ := ra (Kd.R_below (rq HO_4) hb); have _ := ra (Kd.R_below (rq HO_6) hb); have _ := ra (Kd.S_below (by (with_reducible repeat (first | apply Kd.S_alloc | apply Kd.S_drewN | apply Kd.S_drew)); exact HO297.out) hb); have _ := ra (Kd.R_below (rq HO300) hb); have _ := bs hb; clear HO_4 HO_6 HO297 HO300 HB; rename_i HO_4 HO_6 HO297 HO300 HB; (try clear hb); (try clear hb2); (try clear hk); (try clear hi)))
            go_ret
            exact ⟨re, bq⟩
           ·rw [if_neg c54] at H
            exact absurd (Option.some.inj H) (by decide)
         ·replace c43 := Bool.eq_false_iff.mpr c43
          subst c43
          have H1 : (some false) = some true := by rw [if_neg (show ¬ (false = true) by decide)] at H; exact H
          clear H
          have H := H1
          exact absurd (Option.some.inj H) (by decide)
        ·rw [if_neg c39] at H
         exact absurd (Option.some.inj H) (by decide)
   ·replace c13 := Bool.eq_false_iff.mpr c13
    subst c13
    have H1 : (some false) = some true := by rw [if_neg (show ¬ (false = true) by decide)] at H; exact H
    clear H
    have H := H1
    exact absurd (Option.some.inj H) (by decide)
  ·replace c10 := Bool.eq_false_iff.mpr c10
   subst c10
   have H1 : (some false) = some true := by rw [if_neg (show ¬ (false = true) by decide)] at H; exact H
   clear H
   have H := H1
   exact absurd (Option.some.inj H) (by decide)
end Go.Proofs.Ytdbomnhdpniigaa.PA
