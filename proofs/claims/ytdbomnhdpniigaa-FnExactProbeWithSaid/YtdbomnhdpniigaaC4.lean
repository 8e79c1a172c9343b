/- Contracts of the functions laws_FnExactProbeWith. (Began as a print of the kit's tool.) -/
import Derived.Test.YtdbomnhdpniigaaPAd
import Derived.Test.YtdbomnhdpniigaaCx
import Derived.Test.YtdbomnhdpniigaaCm
import Derived.Test.YtdbomnhdpniigaaCy
import Derived.Test.YtdbomnhdpniigaaGConvs
import Derived.Test.YtdbomnhdpniigaaGConv
import Derived.Test.YtdbomnhdpniigaaGConvs
import Derived.Test.YtdbomnhdpniigaaGConv
import Derived.Test.YtdbomnhdpniigaaGWithE
import Derived.Test.YtdbomnhdpniigaaGWith
import Derived.Test.YtdbomnhdpniigaaGClash
import Derived.Test.YtdbomnhdpniigaaGConvs
import Derived.Test.YtdbomnhdpniigaaGConv
import Derived.Test.YtdbomnhdpniigaaGMarks
import Derived.Test.YtdbomnhdpniigaaGMark
import Derived.Test.YtdbomnhdpniigaaGClash
import Derived.Test.YtdbomnhdpniigaaGClash
namespace Go.Proofs.Ytdbomnhdpniigaa.PA
open Go.RowKit Go.Proofs.YtdbomnhdpniigaaW.PrintWords Go.Proofs.YtdbomnhdpniigaaW.PrintLast Go.Proofs.YtdbomnhdpniigaaW.PrintMore Go.Proofs.Ytdbomnhdpniigaa.Z
attribute [local go_sem] max2_int min2_int max_two min_two max_three min_three max_four min_four
set_option linter.unusedVariables false
set_option linter.unusedSimpArgs false
set_option maxHeartbeats 8000000 in
set_option maxRecDepth 100000 in
theorem laws_FnExactProbeWith.calls (k : Nat) (A0 : Option Addr) (c0 : Nat) (l0 : List (S35)) (a1_0 : ByteArray) (A1_1 : Option Addr) (c1_1 : Nat) (l1_1 : List (S121)) (w : World) (hr0 : Kd.C k35 w A0 l0.length l0) (hc0 : l0.length ≤ c0) (hr1_1 : Kd.C k121 w A1_1 l1_1.length l1_1) (hc1_1 : l1_1.length ≤ c1_1) (h : laws_FnExactProbeWith.f k l0 a1_0 l1_1 = some true) :
  Calls Try.prog 4 #[.slice A0 l0.length c0, .agg #[.string a1_0, .slice A1_1 l1_1.length c1_1]] w fun e w' => e = .returned (.bool true) ∧ Below w.heap.size w w' := by
 have hu35 := Try.underlying35
 have hu40 := Try.underlying40
 have HR0 := Aside0.mk hr0
 have HC0 := Aside0.mk hc0
 clear hr0 hc0
 have HR1_1 := Aside0.mk hr1_1
 have HC1_1 := Aside0.mk hc1_1
 clear hr1_1 hc1_1
 have HB := ra (Below.refl w.heap.size w)
 have H : ((laws_szProbeTubeS.f k l0 1048576).bind fun t353 => (if t353 < 0 then (some true) else ((laws_szProbeTube.f a1_0 l1_1 t353).bind fun t354 => (if t354 < 0 then (some true) else ((laws_toProbeTubeS.f k l0).bind fun t355 => ((laws_toProbeTube.f k a1_0 l1_1).bind fun bt358 => ((spec_ProbeWith.f k t355 bt358.1 bt358.2).bind fun t362 => ((laws_toProbeTubeS.f k l0).bind fun t365 => ((laws_toProbeTube.f k a1_0 l1_1).bind fun bt368 => ((impl_ProbeWith.f k t365 bt368.1 bt368.2).bind fun t373 => ((laws_eqProbeClashS.f k t373 t362).bind fun t376 => (if t376 = true then ((laws_toProbeTubeS.f k l0).bind fun t377 => ((laws_eqProbeTubeS.f k t365 t377).bind fun t380 => (if t380 = true then ((laws_toProbeTube.f k a1_0 l1_1).bind fun bt381 => ((laws_eqProbeTube.f k bt368.1 bt368.2 bt381.1 bt381.2).bind fun t385 => (if t385 = true then ((laws_markProbeTubeS.f k t365 1).bind fun bt386 => ((laws_markProbeTube.f k bt368.1 bt368.2 bt386.1).bind fun bt388 => (if bt388.1 < 0 then (laws_FnExactProbeWith.j0 k l0 t362 t373 true a1_0 l1_1) else ((laws_eqProbeClashS.f k t373 t362).bind fun t390 => (laws_FnExactProbeWith.j0 k l0 t362 t373 (!t390) a1_0 l1_1))))) else (some false)))) else (some false)))) else (some false))))))))))))) = some true := h
 clear h
 obtain ⟨t353, A3, H⟩ := bo H
 by_cases c4 : t353 < 0
 ·rw [if_pos c4] at H
  have c4b0 : decide (t353 < 0) = true := decide_eq_true c4
  clear c4 H
  go_enter Try.func4, Try.ntmps4
  go_wp2_with (first | ((with_reducible refine gate_dst (N := 3) rfl ?_); refine be 3 #[.string a1_0, .slice A1_1 l1_1.length c1_1] 35 ?_; intro gb352 hg w5 hbox hb; have _ := bs hb; have _ := ra (hbox); have _ := bz (w0 := w) hg; have _ := bz (w0 := w) hg; clear HB; rename_i HB BK352 GW352 GE352; clear hb hbox hg) | ((with_reducible refine gate_callee (f := 9) rfl ?_); refine gl (some 16) Try.func9 #[.slice A0 l0.length c0, .int .i64 1048576] ?_; (with_reducible refine (laws_szProbeTubeS.calls k _ _ l0 1048576 t353 _ ?side1 ?side2 A3.out).mono ?_); (case side1 => exact sc HR0); (case side2 => exact HC0.out); rintro e w6 ⟨rfl, hb⟩; refine ⟨_, rfl, ?_⟩; have _ := bb (bk BK352) hb; have _ := bs hb; clear BK352 HB; rename_i BK352 HB; (try clear hb); (try clear hb2); (try clear hk); (try clear hi)))
  go_ret
  exact ⟨re, bq⟩
 ·rw [if_neg c4] at H
  have c4b0 : decide (t353 < 0) = false := decide_eq_false c4
  clear c4
  obtain ⟨t354, A7, H⟩ := bo H
  by_cases c8 : t354 < 0
  ·rw [if_pos c8] at H
   have c8b0 : decide (t354 < 0) = true := decide_eq_true c8
   clear c8 H
   go_enter Try.func4, Try.ntmps4
   go_wp2_with (first | ((with_reducible refine gate_dst (N := 3) rfl ?_); refine be 3 #[.string a1_0, .slice A1_1 l1_1.length c1_1] 35 ?_; intro gb352 hg w9 hbox hb; have _ := bs hb; have _ := ra (hbox); have _ := bz (w0 := w) hg; have _ := bz (w0 := w) hg; clear HB; rename_i HB BK352 GW352 GE352; clear hb hbox hg) | ((with_reducible refine gate_callee (f := 9) rfl ?_); refine gl (some 16) Try.func9 #[.slice A0 l0.length c0, .int .i64 1048576] ?_; (with_reducible refine (laws_szProbeTubeS.calls k _ _ l0 1048576 t353 _ ?side1 ?side2 A3.out).mono ?_); (case side1 => exact sc HR0); (case side2 => exact HC0.out); rintro e w10 ⟨rfl, hb⟩; refine ⟨_, rfl, ?_⟩; have _ := bb (bk BK352) hb; have _ := bs hb; clear BK352 HB; rename_i BK352 HB; (try clear hb); (try clear hb2); (try clear hk); (try clear hi); obtain ⟨hcz11_0, hcz11_1, hfz11_0, hfz11_1⟩ := zc2 BK352) | ((with_reducible refine gate_callee (f := 18) rfl ?_); refine gl (some 21) Try.func18 #[.agg #[.string a1_0, .slice A1_1 l1_1.length c1_1], .int .i64 t353] ?_; (with_reducible refine (laws_szProbeTube.calls a1_0 _ _ l1_1 t353 t354 _ ?side1 ?side2 A7.out).mono ?_); (case side1 => exact sc HR1_1); (case side2 => exact HC1_1.out); rintro e w12 ⟨rfl, hb⟩; refine ⟨_, rfl, ?_⟩; have _ := bb (bk BK352) hb; have _ := bs hb; clear BK352 HB; rename_i BK352 HB; (try clear hb); (try clear hb2); (try clear hk); (try clear hi)))
   go_ret
   exact ⟨re, bq⟩
  ·rw [if_neg c8] at H
   have c8b0 : decide (t354 < 0) = false := decide_eq_false c8
   clear c8
   obtain ⟨t355, A13, H⟩ := bo H
   obtain ⟨⟨t358, t359⟩, A14, H⟩ := bo H
   try dsimp only at H
   obtain ⟨t362, A15, H⟩ := bo H
   obtain ⟨t365, A16, H⟩ := bo H
   obtain ⟨⟨t368, t369⟩, A17, H⟩ := bo H
   try dsimp only at H
   obtain ⟨t373, A18, H⟩ := bo H
   obtain ⟨t376, A19, H⟩ := bo H
   by_cases c20 : t376 = true
   ·subst c20
    replace H := it H rfl
    obtain ⟨t377, A21, H⟩ := bo H
    obtain ⟨t380, A22, H⟩ := bo H
    by_cases c23 : t380 = true
    ·subst c23
     replace H := it H rfl
     obtain ⟨⟨t381, t382⟩, A24, H⟩ := bo H
     try dsimp only at H
     obtain ⟨t385, A25, H⟩ := bo H
     by_cases c26 : t385 = true
     ·subst c26
      replace H := it H rfl
      obtain ⟨⟨t386, t387⟩, A27, H⟩ := bo H
      try dsimp only at H
      obtain ⟨⟨t388, t389⟩, A28, H⟩ := bo H
      try dsimp only at H
      have HC29 := Aside0.mk H
      clear H
      go_enter Try.func4, Try.ntmps4
      try go_wp2_with (first | ((with_reducible refine gate_dst (N := 3) rfl ?_); refine be 3 #[.string a1_0, .slice A1_1 l1_1.length c1_1] 35 ?_; intro gb352 hg w30 hbox hb; have _ := bs hb; have _ := ra (hbox); have _ := bz (w0 := w) hg; have _ := bz (w0 := w) hg; clear HB; rename_i HB BK352 GW352 GE352; clear hb hbox hg) | ((with_reducible refine gate_callee (f := 9) rfl ?_); refine gl (some 16) Try.func9 #[.slice A0 l0.length c0, .int .i64 1048576] ?_; (with_reducible refine (laws_szProbeTubeS.calls k _ _ l0 1048576 t353 _ ?side1 ?side2 A3.out).mono ?_); (case side1 => exact sc HR0); (case side2 => exact HC0.out); rintro e w31 ⟨rfl, hb⟩; refine ⟨_, rfl, ?_⟩; have _ := bb (bk BK352) hb; have _ := bs hb; clear BK352 HB; rename_i BK352 HB; (try clear hb); (try clear hb2); (try clear hk); (try clear hi); obtain ⟨hcz32_0, hcz32_1, hfz32_0, hfz32_1⟩ := zc2 BK352) | ((with_reducible refine gate_callee (f := 18) rfl ?_); refine gl (some 21) Try.func18 #[.agg #[.string a1_0, .slice A1_1 l1_1.length c1_1], .int .i64 t353] ?_; (with_reducible refine (laws_szProbeTube.calls a1_0 _ _ l1_1 t353 t354 _ ?side1 ?side2 A7.out).mono ?_); (case side1 => exact sc HR1_1); (case side2 => exact HC1_1.out); rintro e w33 ⟨rfl, hb⟩; refine ⟨_, rfl, ?_⟩; have _ := bb (bk BK352) hb; have _ := bs hb; clear BK352 HB; rename_i BK352 HB; (try clear hb); (try clear hb2); (try clear hk); (try clear hi)))
      have _ := ra (blk_drew BK352.out)
      have _ := ra (below_drew1 HB.out)
      clear BK352 HB
      rename_i BK352 HB
      refine start_ (n := 6) (S := fun w' => w'.cell? ⟨gb352, 0, none⟩ = some (.string a1_0) ∧ w'.cell? ⟨gb352, 1, none⟩ = some (.slice A1_1 l1_1.length c1_1)) (ds := []) (bl 6 0) (by kernel_rfl) rfl rfl ⟨(blk_cell BK352.out 0).trans rfl, (blk_cell BK352.out 1).trans rfl⟩ (fun hHeld => ?_)
      generalize w33.drew = w34 at BK352 HB hHeld ⊢
      refine pu 0 24 (bl 6 1) ?_
      refine tk 2 26 (bl 6 5) ?_ hHeld
      refine oe 1 25 (bl 6 7) (fun K hK => ?_)
      refine gs Try.func11 #[.slice A0 l0.length c0] ?_
      with_reducible refine (laws_toProbeTubeS.calls k _ _ l0 t355 _ ?side1 ?side2 A13.out).mono ?_
      (case side1 => exact sc HR0)
      (case side2 => exact HC0.out)
      rintro e w35 ⟨v356, rfl, ho0, hb⟩
      refine ⟨_, rfl, ?_⟩
      have _ := ra (Kd.S_lower ho0 (below_size bq))
      have _ := bb (bk BK352) hb
      have _ := bs hb
      clear BK352 HB
      rename_i HO357 BK352 HB
      (try clear hb)
      (try clear hb2)
      (try clear hk)
      (try clear hi)
      (try clear ho0)
      refine hK.out _ _ ⟨(blk_cell BK352.out 0).trans rfl, (blk_cell BK352.out 1).trans rfl⟩ (fun hHeld => ?_)
      clear hK K
      refine nm 25 ?_
      refine oe 3 27 (bl 6 15) (fun K hK => ?_)
      refine gs Try.func20 #[.agg #[.string a1_0, .slice A1_1 l1_1.length c1_1]] ?_
      with_reducible refine (laws_toProbeTube.calls k a1_0 _ _ l1_1 t358 t359 _ ?side1 ?side2 A14.out).mono ?_
      (case side1 => exact sc HR1_1)
      (case side2 => exact HC1_1.out)
      rintro e w36 ⟨v360, rfl, ho0, hb⟩
      refine ⟨_, rfl, ?_⟩
      have _ := ra (Kd.S_elder' (by (with_reducible repeat (first | apply Kd.S_alloc | apply Kd.S_drewN | apply Kd.S_drew)); exact HO357.out) (Kd.R_base ho0) hb)
      have _ := ra (Kd.R_lower ho0 (below_size bq))
      have _ := bb (bk BK352) hb
      have _ := bs hb
      clear HO357 BK352 HB
      rename_i HO357 HO361 BK352 HB
      (try clear hb)
      (try clear hb2)
      (try clear hk)
      (try clear hi)
      (try clear ho0)
      obtain ⟨Ao37, co37, eo37⟩ := Kd.S_slice HO357.out
      (first | subst eo37 | (injection eo37 with f1_ f2_ f3_; have f4_ := f1_.symm; have f5_ := f3_.symm; clear f1_ f2_ f3_; subst f4_; subst f5_))
      obtain ⟨Ao38, co38, eo38⟩ := Kd.R_slice HO361.out
      (first | subst eo38 | (injection eo38 with f1_ f2_ f3_; have f4_ := f1_.symm; have f5_ := f3_.symm; clear f1_ f2_ f3_; subst f4_; subst f5_))
      refine hK.out _ _ ⟨(blk_cell BK352.out 0).trans rfl, (blk_cell BK352.out 1).trans rfl⟩ (fun hHeld => ?_)
      clear hK K
      refine nm 27 ?_
      refine oe 4 28 (bl 6 31) (fun K hK => ?_)
      refine gs Try.func19 #[.slice Ao37 t355.length co37, .agg #[.string t358, .slice Ao38 t359.length co38]] ?_
      with_reducible refine (spec_ProbeWith.calls k _ _ t355 t358 _ _ t359 t362 _ ?side1 ?side2 ?side3 ?side4 A15.out).mono ?_
      (case side1 => repeat (first | exact (Kd.S_reads' HO357.out).2.2 | (with_reducible refine Kd.C_alloc ?_ _) | (with_reducible refine Kd.C_drewN ?_ _) | (with_reducible refine Kd.C_drew ?_)))
      (case side2 => exact (Kd.S_reads' HO357.out).2.1)
      (case side3 => exact sr HO361)
      (case side4 => exact (Kd.R_reads' HO361.out).2.1)
      rintro e w39 ⟨v363, rfl, ho0, hb⟩
      refine ⟨_, rfl, ?_⟩
      have _ := ra (Kd.S_below (by (with_reducible repeat (first | apply Kd.S_alloc | apply Kd.S_drewN | apply Kd.S_drew)); exact HO357.out) hb)
      have _ := ra (Kd.R_below (rq HO361) hb)
      have _ := ra (Kd.R_lower ho0 (below_size bq))
      have _ := bb (bk BK352) hb
      have _ := bs hb
      clear HO357 HO361 BK352 HB
      rename_i HO357 HO361 HO364 BK352 HB
      (try clear hb)
      (try clear hb2)
      (try clear hk)
      (try clear hi)
      (try clear ho0)
      refine hK.out _ _ ⟨(blk_cell BK352.out 0).trans rfl, (blk_cell BK352.out 1).trans rfl⟩ (fun hHeld => ?_)
      clear hK K
      refine nm 28 ?_
      refine pu 5 6 (bl 6 63) ?_
      refine done_ (by kernel_rfl) ?_
      try go_wp2_with (first | ((with_reducible refine gate_callee (f := 11) rfl ?_); refine gl (some 30) Try.func11 #[.slice A0 l0.length c0] ?_; (with_reducible refine (laws_toProbeTubeS.calls k _ _ l0 t365 _ ?side1 ?side2 A16.out).mono ?_); (case side1 => exact sc HR0); (case side2 => exact HC0.out); rintro e w40 ⟨v366, rfl, ho0, hb⟩; refine ⟨_, rfl, ?_⟩; have _ := ra (Kd.S_elder' (by (with_reducible repeat (first | apply Kd.S_alloc | apply Kd.S_drewN | apply Kd.S_drew)); exact HO357.out) (Kd.S_base ho0) hb); have _ := ra (Kd.R_below (rq HO361) hb); have _ := ra (Kd.R_below (rq HO364) hb); have _ := ra (Kd.S_lower (Kd.S_new' (Kd.S_new' ho0 (Kd.S_lt (by (with_reducible repeat (first | apply Kd.S_alloc | apply Kd.S_drewN | apply Kd.S_drew)); exact HO357.out))) (Kd.R_lt (rq HO361))) (below_size bq)); have _ := bb (bk BK352) hb; have _ := bs hb; clear HO357 HO361 HO364 BK352 HB; rename_i HO357 HO361 HO364 HO367 BK352 HB; (try clear hb); (try clear hb2); (try clear hk); (try clear hi); (try clear ho0); obtain ⟨hcz41_0, hcz41_1, hfz41_0, hfz41_1⟩ := zc2 BK352) | ((with_reducible refine gate_callee (f := 20) rfl ?_); refine gl (some 32) Try.func20 #[.agg #[.string a1_0, .slice A1_1 l1_1.length c1_1]] ?_; (with_reducible refine (laws_toProbeTube.calls k a1_0 _ _ l1_1 t368 t369 _ ?side1 ?side2 A17.out).mono ?_); (case side1 => exact sc HR1_1); (case side2 => exact HC1_1.out); rintro e w42 ⟨v370, rfl, ho0, hb⟩; refine ⟨_, rfl, ?_⟩; have _ := ra (Kd.S_elder' (by (with_reducible repeat (first | apply Kd.S_alloc | apply Kd.S_drewN | apply Kd.S_drew)); exact HO357.out) (Kd.R_base ho0) hb); have _ := ra (Kd.R_elder' (rq HO361) (Kd.R_base ho0) hb); have _ := ra (Kd.R_below (rq HO364) hb); have _ := ra (Kd.S_elder' (by (with_reducible repeat (first | apply Kd.S_alloc | apply Kd.S_drewN | apply Kd.S_drew)); exact HO367.out) (Kd.R_base ho0) hb); have _ := ra (Kd.R_lower (Kd.R_new' ho0 (Kd.R_lt (rq HO361))) (below_size bq)); have _ := bb (bk BK352) hb; have _ := bs hb; clear HO357 HO361 HO364 HO367 BK352 HB; rename_i HO357 HO361 HO364 HO367 HO371 BK352 HB; (try clear hb); (try clear hb2); (try clear hk); (try clear hi); (try clear ho0)) | ((with_reducible refine gate_dst (N := 8) rfl ?_); refine be 8 #[.string (⟨#[]⟩ : ByteArray), .slice none 0 0] 40 ?_; intro gb372 hg w43 hbox hb; have _ := ra (Kd.S_below (Kd.S_elderB (by (with_reducible repeat (first | apply Kd.S_alloc | apply Kd.S_drewN | apply Kd.S_drew)); exact HO357.out) gb372 (Nat.le_of_eq hg.symm)) hb); have _ := ra (Kd.R_below (rq HO361) hb); have _ := ra (Kd.R_below (rq HO364) hb); have _ := ra (Kd.S_below (Kd.S_elderB (by (with_reducible repeat (first | apply Kd.S_alloc | apply Kd.S_drewN | apply Kd.S_drew)); exact HO367.out) gb372 (Nat.le_of_eq hg.symm)) hb); have _ := ra (Kd.R_below (rq HO371) hb); have _ := bb (bk BK352) hb; have _ := bs hb; have _ := ra (hbox); have _ := bz (w0 := w) hg; have _ := bz (w0 := w) hg; have _ := bn hg (bk BK352); have _ := bm hg (bk BK352); clear HO357 HO361 HO364 HO367 HO371 BK352 HB; rename_i HO357 HO361 HO364 HO367 HO371 BK352 HB BK372 GW372 GE372 NB352_372 NB372_352; clear hb hbox hg; have hnb44 := NB372_352.out; have hnc44 := NB352_372.out; obtain ⟨hcz45_0, hcz45_1, hfz45_0, hfz45_1⟩ := zc2 BK372; obtain ⟨Ao46, co46, eo46⟩ := Kd.R_slice HO371.out; subst eo46; obtain ⟨Ao47, co47, eo47⟩ := Kd.S_slice HO367.out; subst eo47) | ((with_reducible refine gate_callee (f := 21) rfl ?_); refine gl (some 35) Try.func21 #[.slice Ao47 t365.length co47, .agg #[.string t368, .slice Ao46 t369.length co46]] ?_; (with_reducible refine (impl_ProbeWith.calls k _ _ t365 t368 _ _ t369 t373 _ ?side1 ?side2 ?side3 ?side4 A18.out).mono ?_); (case side1 => refine (Kd.S_reads' (e := 40) (base := w.heap.size) (ok := fun k_ => ((((True ∧ some k_ ≠ (.slice Ao37 t355.length co37 : Value).ownBlock) ∧ some k_ ≠ (.slice Ao38 t359.length co38 : Value).ownBlock) ∧ some k_ ≠ (.slice Ao46 t369.length co46 : Value).ownBlock) ∧ k_ ≠ gb372)) (n := t365.length) (c := co47) ?_).2.2; exact (by (with_reducible repeat (first | apply Kd.S_alloc | apply Kd.S_drewN | apply Kd.S_drew)); exact (Kd.S_mono (Kd.S_far (p := ⟨gb372, 1, none⟩) (Kd.S_far (p := ⟨gb372, 0, none⟩) (Kd.S_mono HO367.out (fun k_ hk => (⟨hk, hk.2⟩ : _ ∧ k_ ≠ gb372))) (fun _ hk => hk.2) (.string t368)) (fun _ hk => hk.2) (.slice Ao46 t369.length co46)) (fun _ h_ => h_.1)))); (case side2 => exact (Kd.S_reads' HO367.out).2.1); (case side3 => refine (Kd.R_reads' (e := 95) (base := w.heap.size) (ok := fun k_ => (True ∧ some k_ ≠ (.slice Ao38 t359.length co38 : Value).ownBlock)) (n := t369.length) (c := co46) ?_).2.2; exact (Kd.R_mono (rf (Kd.R_types HO371.out BK372.out (by decide))) (fun _ h_ => h_.1))); (case side4 => exact (Kd.R_reads' HO371.out).2.1); rintro e w48 ⟨v374, rfl, ho0, hb⟩; refine ⟨_, rfl, ?_⟩; have _ := ra (Kd.S_below (by (with_reducible repeat (first | apply Kd.S_alloc | apply Kd.S_drewN | apply Kd.S_drew)); exact (Kd.S_mono (Kd.S_far (p := ⟨gb372, 1, none⟩) (Kd.S_far (p := ⟨gb372, 0, none⟩) (Kd.S_mono HO357.out (fun k_ hk => (⟨hk, hk.2⟩ : _ ∧ k_ ≠ gb372))) (fun _ hk => hk.2) (.string t368)) (fun _ hk => hk.2) (.slice Ao46 t369.length co46)) (fun _ h_ => h_.1))) hb); have _ := ra (Kd.R_below (Kd.R_mono (rf (Kd.R_types HO361.out BK372.out (by decide))) (fun _ h_ => h_.1)) hb); have _ := ra (Kd.R_elder' (Kd.R_mono (rf (Kd.R_types HO364.out BK372.out (by decide))) (fun _ h_ => h_.1)) (Kd.R_base ho0) hb); have _ := ra (Kd.S_below (by (with_reducible repeat (first | apply Kd.S_alloc | apply Kd.S_drewN | apply Kd.S_drew)); exact (Kd.S_mono (Kd.S_far (p := ⟨gb372, 1, none⟩) (Kd.S_far (p := ⟨gb372, 0, none⟩) (Kd.S_mono HO367.out (fun k_ hk => (⟨hk, hk.2⟩ : _ ∧ k_ ≠ gb372))) (fun _ hk => hk.2) (.string t368)) (fun _ hk => hk.2) (.slice Ao46 t369.length co46)) (fun _ h_ => h_.1))) hb); have _ := ra (Kd.R_below (Kd.R_mono (rf (Kd.R_types HO371.out BK372.out (by decide))) (fun _ h_ => h_.1)) hb); have _ := ra (Kd.R_lower (Kd.R_new' ho0 (Kd.R_lt (Kd.R_mono (rf (Kd.R_types HO364.out BK372.out (by decide))) (fun _ h_ => h_.1)))) (below_size bq)); have _ := bb (bk BK352) hb; have _ := bb (o := .cells #[.string t368, .slice Ao46 t369.length co46] 40 (0, 0)) (bp BK372) hb; have _ := bs hb; clear HO357 HO361 HO364 HO367 HO371 BK352 BK372 HB; rename_i HO357 HO361 HO364 HO367 HO371 HO375 BK352 BK372 HB; (try clear hb); (try clear hb2); (try clear hk); (try clear hi); (try clear ho0); obtain ⟨Ao49, co49, eo49⟩ := Kd.R_slice HO375.out; subst eo49; obtain ⟨Ao50, co50, eo50⟩ := Kd.R_slice HO364.out; subst eo50) | ((with_reducible refine gate_callee (f := 13) rfl ?_); refine gl (some 38) Try.func13 #[.slice Ao49 t373.length co49, .slice Ao50 t362.length co50] ?_; (with_reducible refine (laws_eqProbeClashS.calls k _ _ t373 _ _ t362 true _ ?side1 ?side2 ?side3 ?side4 A19.out).mono ?_); (case side1 => exact sr HO375); (case side2 => exact (Kd.R_reads' HO375.out).2.1); (case side3 => exact sr HO364); (case side4 => exact (Kd.R_reads' HO364.out).2.1); rintro e w51 ⟨rfl, hb⟩; refine ⟨_, rfl, ?_⟩; have _ := ra (Kd.S_below (by (with_reducible repeat (first | apply Kd.S_alloc | apply Kd.S_drewN | apply Kd.S_drew)); exact HO357.out) hb); have _ := ra (Kd.R_below (rq HO361) hb); have _ := ra (Kd.R_below (rq HO364) hb); have _ := ra (Kd.S_below (by (with_reducible repeat (first | apply Kd.S_alloc | apply Kd.S_drewN | apply Kd.S_drew)); exact HO367.out) hb); have _ := ra (Kd.R_below (rq HO371) hb); have _ := ra (Kd.R_below (rq HO375) hb); have _ := bb (bk BK352) hb; have _ := bb (bk BK372) hb; have _ := bs hb; clear HO357 HO361 HO364 HO367 HO371 HO375 BK352 BK372 HB; rename_i HO357 HO361 HO364 HO367 HO371 HO375 BK352 BK372 HB; (try clear hb); (try clear hb2); (try clear hk); (try clear hi)) | ((with_reducible refine gate_callee (f := 11) rfl ?_); refine gl (some 42) Try.func11 #[.slice A0 l0.length c0] ?_; (with_reducible refine (laws_toProbeTubeS.calls k _ _ l0 t377 _ ?side1 ?side2 A21.out).mono ?_); (case side1 => exact sc HR0); (case side2 => exact HC0.out); rintro e w52 ⟨v378, rfl, ho0, hb⟩; refine ⟨_, rfl, ?_⟩; have _ := ra (Kd.S_elder' (by (with_reducible repeat (first | apply Kd.S_alloc | apply Kd.S_drewN | apply Kd.S_drew)); exact HO357.out) (Kd.S_base ho0) hb); have _ := ra (Kd.R_below (rq HO361) hb); have _ := ra (Kd.R_below (rq HO364) hb); have _ := ra (Kd.S_elder' (by (with_reducible repeat (first | apply Kd.S_alloc | apply Kd.S_drewN | apply Kd.S_drew)); exact HO367.out) (Kd.S_base ho0) hb); have _ := ra (Kd.R_below (rq HO371) hb); have _ := ra (Kd.R_below (rq HO375) hb); have _ := ra (Kd.S_lower (Kd.S_newB (Kd.S_new' (Kd.S_new' (Kd.S_new' (Kd.S_new' ho0 (Kd.S_lt (by (with_reducible repeat (first | apply Kd.S_alloc | apply Kd.S_drewN | apply Kd.S_drew)); exact HO357.out))) (Kd.R_lt (rq HO361))) (Kd.S_lt (by (with_reducible repeat (first | apply Kd.S_alloc | apply Kd.S_drewN | apply Kd.S_drew)); exact HO367.out))) (Kd.R_lt (rq HO371))) (g := gb372) (o := .cells #[.string t368, .slice Ao46 t369.length co46] 40 (0, 0)) (bk BK372)) (below_size bq)); have _ := bb (bk BK352) hb; have _ := bb (bk BK372) hb; have _ := bs hb; clear HO357 HO361 HO364 HO367 HO371 HO375 BK352 BK372 HB; rename_i HO357 HO361 HO364 HO367 HO371 HO375 HO379 BK352 BK372 HB; (try clear hb); (try clear hb2); (try clear hk); (try clear hi); (try clear ho0); obtain ⟨Ao53, co53, eo53⟩ := Kd.S_slice HO379.out; subst eo53) | ((with_reducible refine gate_callee (f := 14) rfl ?_); refine gl (some 43) Try.func14 #[.slice Ao47 t365.length co47, .slice Ao53 t377.length co53] ?_; (with_reducible refine (laws_eqProbeTubeS.calls k _ _ t365 _ _ t377 true _ ?side1 ?side2 ?side3 ?side4 A22.out).mono ?_); (case side1 => repeat (first | exact (Kd.S_reads' HO367.out).2.2 | (with_reducible refine Kd.C_alloc ?_ _) | (with_reducible refine Kd.C_drewN ?_ _) | (with_reducible refine Kd.C_drew ?_))); (case side2 => exact (Kd.S_reads' HO367.out).2.1); (case side3 => repeat (first | exact (Kd.S_reads' HO379.out).2.2 | (with_reducible refine Kd.C_alloc ?_ _) | (with_reducible refine Kd.C_drewN ?_ _) | (with_reducible refine Kd.C_drew ?_))); (case side4 => exact (Kd.S_reads' HO379.out).2.1); rintro e w54 ⟨rfl, hb⟩; refine ⟨_, rfl, ?_⟩; have _ := ra (Kd.S_below (by (with_reducible repeat (first | apply Kd.S_alloc | apply Kd.S_drewN | apply Kd.S_drew)); exact HO357.out) hb); have _ := ra (Kd.R_below (rq HO361) hb); have _ := ra (Kd.R_below (rq HO364) hb); have _ := ra (Kd.S_below (by (with_reducible repeat (first | apply Kd.S_alloc | apply Kd.S_drewN | apply Kd.S_drew)); exact HO367.out) hb); have _ := ra (Kd.R_below (rq HO371) hb); have _ := ra (Kd.R_below (rq HO375) hb); have _ := ra (Kd.S_below (by (with_reducible repeat (first | apply Kd.S_alloc | apply Kd.S_drewN | apply Kd.S_drew)); exact HO379.out) hb); have _ := bb (bk BK352) hb; have _ := bb (bk BK372) hb; have _ := bs hb; clear HO357 HO361 HO364 HO367 HO371 HO375 HO379 BK352 BK372 HB; rename_i HO357 HO361 HO364 HO367 HO371 HO375 HO379 BK352 BK372 HB; (try clear hb); (try clear hb2); (try clear hk); (try clear hi)))
      have _ := ra (Kd.S_drew HO357.out)
      have _ := ra (Kd.R_drew HO361.out)
      have _ := ra (Kd.R_drew HO364.out)
      have _ := ra (Kd.S_drew HO367.out)
      have _ := ra (Kd.R_drew HO371.out)
      have _ := ra (Kd.R_drew HO375.out)
      have _ := ra (Kd.S_drew HO379.out)
      have _ := ra (blk_drew BK352.out)
      have _ := ra (blk_drew BK372.out)
      have _ := ra (below_drew1 HB.out)
      clear HO357 HO361 HO364 HO367 HO371 HO375 HO379 BK352 BK372 HB
      rename_i HO357 HO361 HO364 HO367 HO371 HO375 HO379 BK352 BK372 HB
      refine start_ (n := 5) (S := fun w' => w'.cell? ⟨gb372, 0, none⟩ = some (.string t368) ∧ w'.cell? ⟨gb372, 1, none⟩ = some (.slice Ao46 t369.length co46) ∧ w'.cell? ⟨gb352, 0, none⟩ = some (.string a1_0) ∧ w'.cell? ⟨gb352, 1, none⟩ = some (.slice A1_1 l1_1.length c1_1)) (ds := []) (bl 5 0) (by kernel_rfl) rfl rfl ⟨(blk_cell BK372.out 0).trans rfl, (blk_cell BK372.out 1).trans rfl, (blk_cell BK352.out 0).trans rfl, (blk_cell BK352.out 1).trans rfl⟩ (fun hHeld => ?_)
      generalize w54.drew = w55 at HO357 HO361 HO364 HO367 HO371 HO375 HO379 BK352 BK372 HB hHeld ⊢
      refine tk 0 45 (bl 5 1) ?_ hHeld
      refine tk 1 46 (bl 5 3) ?_ hHeld
      refine oe 2 47 (bl 5 7) (fun K hK => ?_)
      refine gs Try.func20 #[.agg #[.string a1_0, .slice A1_1 l1_1.length c1_1]] ?_
      with_reducible refine (laws_toProbeTube.calls k a1_0 _ _ l1_1 t381 t382 _ ?side1 ?side2 A24.out).mono ?_
      (case side1 => exact sc HR1_1)
      (case side2 => exact HC1_1.out)
      rintro e w56 ⟨v383, rfl, ho0, hb⟩
      refine ⟨_, rfl, ?_⟩
      have _ := ra (Kd.S_elder' (by (with_reducible repeat (first | apply Kd.S_alloc | apply Kd.S_drewN | apply Kd.S_drew)); exact HO357.out) (Kd.R_base ho0) hb)
      have _ := ra (Kd.R_elder' (rq HO361) (Kd.R_base ho0) hb)
      have _ := ra (Kd.R_below (rq HO364) hb)
      have _ := ra (Kd.S_elder' (by (with_reducible repeat (first | apply Kd.S_alloc | apply Kd.S_drewN | apply Kd.S_drew)); exact HO367.out) (Kd.R_base ho0) hb)
      have _ := ra (Kd.R_elder' (rq HO371) (Kd.R_base ho0) hb)
      have _ := ra (Kd.R_below (rq HO375) hb)
      have _ := ra (Kd.S_elder' (by (with_reducible repeat (first | apply Kd.S_alloc | apply Kd.S_drewN | apply Kd.S_drew)); exact HO379.out) (Kd.R_base ho0) hb)
      have _ := ra (Kd.R_lower (Kd.R_new' (Kd.R_new' ho0 (Kd.R_lt (rq HO361))) (Kd.R_lt (rq HO371))) (below_size bq))
      have _ := bb (bk BK352) hb
      have _ := bb (bk BK372) hb
      have _ := bs hb
      clear HO357 HO361 HO364 HO367 HO371 HO375 HO379 BK352 BK372 HB
      rename_i HO357 HO361 HO364 HO367 HO371 HO375 HO379 HO384 BK352 BK372 HB
      (try clear hb)
      (try clear hb2)
      (try clear hk)
      (try clear hi)
      (try clear ho0)
      obtain ⟨Ao57, co57, eo57⟩ := Kd.R_slice HO384.out
      (first | subst eo57 | (injection eo57 with f1_ f2_ f3_; have f4_ := f1_.symm; have f5_ := f3_.symm; clear f1_ f2_ f3_; subst f4_; subst f5_))
      refine hK.out _ _ ⟨(blk_cell BK372.out 0).trans rfl, (blk_cell BK372.out 1).trans rfl, (blk_cell BK352.out 0).trans rfl, (blk_cell BK352.out 1).trans rfl⟩ (fun hHeld => ?_)
      clear hK K
      refine nm 47 ?_
      refine oe 3 48 (bl 5 15) (fun K hK => ?_)
      refine gs Try.func22 #[.agg #[.string t368, .slice Ao46 t369.length co46], .agg #[.string t381, .slice Ao57 t382.length co57]] ?_
      with_reducible refine (laws_eqProbeTube.calls k t368 _ _ t369 t381 _ _ t382 true _ ?side1 ?side2 ?side3 ?side4 A25.out).mono ?_
      (case side1 => exact sr HO371)
      (case side2 => exact (Kd.R_reads' HO371.out).2.1)
      (case side3 => exact sr HO384)
      (case side4 => exact (Kd.R_reads' HO384.out).2.1)
      rintro e w58 ⟨rfl, hb⟩
      refine ⟨_, rfl, ?_⟩
      have _ := ra (Kd.S_below (by (with_reducible repeat (first | apply Kd.S_alloc | apply Kd.S_drewN | apply Kd.S_drew)); exact HO357.out) hb)
      have _ := ra (Kd.R_below (rq HO361) hb)
      have _ := ra (Kd.R_below (rq HO364) hb)
      have _ := ra (Kd.S_below (by (with_reducible repeat (first | apply Kd.S_alloc | apply Kd.S_drewN | apply Kd.S_drew)); exact HO367.out) hb)
      have _ := ra (Kd.R_below (rq HO371) hb)
      have _ := ra (Kd.R_below (rq HO375) hb)
      have _ := ra (Kd.S_below (by (with_reducible repeat (first | apply Kd.S_alloc | apply Kd.S_drewN | apply Kd.S_drew)); exact HO379.out) hb)
      have _ := ra (Kd.R_below (rq HO384) hb)
      have _ := bb (bk BK352) hb
      have _ := bb (bk BK372) hb
      have _ := bs hb
      clear HO357 HO361 HO364 HO367 HO371 HO375 HO379 HO384 BK352 BK372 HB
      rename_i HO357 HO361 HO364 HO367 HO371 HO375 HO379 HO384 BK352 BK372 HB
      (try clear hb)
      (try clear hb2)
      (try clear hk)
      (try clear hi)
      refine hK.out _ _ ⟨(blk_cell BK372.out 0).trans rfl, (blk_cell BK372.out 1).trans rfl, (blk_cell BK352.out 0).trans rfl, (blk_cell BK352.out 1).trans rfl⟩ (fun hHeld => ?_)
      clear hK K
      refine nm 48 ?_
      refine pu 4 49 (bl 5 31) ?_
      refine done_ (by kernel_rfl) ?_
      go_upto_region 21 with (first | ((with_reducible refine gate_callee (f := 15) rfl ?_); refine gl (some 52) Try.func15 #[.slice Ao47 t365.length co47, .int .i64 1] ?_; (with_reducible refine (laws_markProbeTubeS.calls k _ (.slice Ao47 t365.length co47) t365 1 t386 t387 w _ ?side1 (Z.S_typ HO367.out) A27.out).mono ?_); (case side1 => repeat (first | (with_reducible first | exact HB.out | apply below_alloc | apply pw_below_drewN | apply below_drew1 | refine below_set ?_ GE352.out | refine below_set ?_ GE372.out) | exact HB.out)); rintro e w59 ⟨rfl, hy0, hb, hkp⟩; refine ⟨_, rfl, ?_⟩; have _ := ra (Z.blk_keptT (bk BK352) hkp (by decide)); have _ := ra (Z.R_keptA rfl (HO361.out) hkp (fun k_ e_ hs_ => (hs_.1.1.1.1.1.2) e_.symm)); have _ := ra (Z.R_keptT (HO364.out) hkp (by decide)); have _ := ra (Z.R_keptA rfl (HO371.out) hkp (fun k_ e_ hs_ => (hs_.1.1.1.1.2) e_.symm)); have _ := ra (blk_kept (bk BK372) hkp (fun hs_ => (hs_.1.1.1.2) rfl)); have _ := ra (Z.R_keptT (HO375.out) hkp (by decide)); have _ := ra (Z.R_keptA rfl (HO384.out) hkp (fun k_ e_ hs_ => (hs_.1.2) e_.symm)); have _ := ra (hb); clear BK352 HO361 HO364 HO371 BK372 HO375 HO384 HB HO357 HO367 HO379; rename_i BK352 HO361 HO364 HO371 BK372 HO375 HO384 HB; (try clear hb); (try clear hkp); (try clear hy0); obtain ⟨hcz60_0, hcz60_1, hfz60_0, hfz60_1⟩ := zc2 BK372) | ((with_reducible refine gate_callee (f := 23) rfl ?_); refine gl (some 55) Try.func23 #[.agg #[.string t368, .slice Ao46 t369.length co46], .int .i64 t386] ?_; (with_reducible refine (laws_markProbeTube.calls k t368 (fun k_ => some k_ = (.slice Ao46 t369.length co46 : Value).ownBlock) (.slice Ao46 t369.length co46) t369 t386 t388 t389 w _ ?side1 ?side2 A28.out).mono ?_); (case side1 => repeat (first | (with_reducible first | exact HB.out | apply below_alloc | apply pw_below_drewN | apply below_drew1 | refine below_set ?_ GE352.out | refine below_set ?_ GE372.out) | exact HB.out)); (case side2 => exact Kd.R_tight rfl HO371.out); rintro e w61 ⟨rfl, hy0, hb, hkp⟩; refine ⟨_, rfl, ?_⟩; have _ := ra (blk_kept (bk BK352) hkp (fun hs_ => (fun e_ => (Kd.R_ne HO371.out BK352.out (by decide)) e_) hs_)); have _ := ra (Kd.R_mono (ok' := fun k_ => some k_ ≠ (.slice Ao46 t369.length co46 : Value).ownBlock ∧ some k_ ≠ (.slice Ao57 t382.length co57 : Value).ownBlock) (Kd.R_keptB (HO361.out) hkp (fun k_ hk_ hs_ => (hk_.1.2) hs_)) (fun k_ hk_ => ⟨hk_.1.1.2, hk_.1.2⟩)); have _ := ra (Kd.R_mono (ok' := fun k_ => some k_ ≠ (.slice Ao49 t373.length co49 : Value).ownBlock) (Kd.R_keptB ((Kd.R_apart' HO364.out (Kd.R_typed HO371.out) (by decide))) hkp (fun k_ hk_ hs_ => (hk_.2) hs_)) (fun k_ hk_ => hk_.1.1.2)); have _ := ra (Kd.R_reok rfl hy0 (fun k_ e_ => HO371.out.1 k_ e_)); have _ := ra (blk_kept (bk BK372) hkp (fun hs_ => (fun e_ => (Kd.R_ne HO371.out BK372.out (by decide)) e_) hs_)); have _ := ra (Kd.R_mono (ok' := fun k_ => some k_ ≠ (.slice Ao50 t362.length co50 : Value).ownBlock) (Kd.R_keptB ((Kd.R_apart' HO375.out (Kd.R_typed HO371.out) (by decide))) hkp (fun k_ hk_ hs_ => (hk_.2) hs_)) (fun k_ hk_ => hk_.1.1.2)); have _ := ra (Kd.R_mono (ok' := fun k_ => some k_ ≠ (.slice Ao38 t359.length co38 : Value).ownBlock ∧ some k_ ≠ (.slice Ao46 t369.length co46 : Value).ownBlock) (Kd.R_keptB (HO384.out) hkp (fun k_ hk_ hs_ => (hk_.2) hs_)) (fun k_ hk_ => ⟨hk_.1.1.2, hk_.1.2⟩)); have _ := ra (hb); clear BK352 HO361 HO364 HO371 BK372 HO375 HO384 HB; rename_i BK352 HO361 HO364 HO371 BK372 HO375 HO384 HB; (try clear hb); (try clear hkp); (try clear hy0)))
      (try simp only [Act.put, List.setIfInBounds_toArray, List.set_cons_zero, List.set_cons_succ])
      go_cut [63] (fun v63 wc => ∃ (kq : Nat) (x63_28 : Bool), v63 = .bool x63_28 ∧ Aside0 (laws_FnExactProbeWith.j0 kq l0 t362 t373 x63_28 a1_0 l1_1 = some true) ∧ Aside0 (kq ≤ k) ∧ Aside0 (Kd.R k49 49 wc w.heap.size (fun k_ => some k_ ≠ ((.slice Ao49 t373.length co49) : Value).ownBlock) (.slice Ao50 t362.length co50) t362) ∧ Aside0 (Kd.R k49 49 wc w.heap.size (fun k_ => some k_ ≠ ((.slice Ao50 t362.length co50) : Value).ownBlock) (.slice Ao49 t373.length co49) t373) ∧ Aside0 (Kd.R k95 95 wc w.heap.size (fun _ => True) (.slice Ao46 t369.length co46) t389) ∧ Aside0 (wc.heap[gb352]? = some (.cells #[.string a1_0, (.slice A1_1 l1_1.length c1_1)] 35 (0, 0))) ∧ Aside0 (wc.heap[gb372]? = some (.cells #[.string t368, (.slice Ao46 t369.length co46)] 40 (0, 0))) ∧ Aside0 (Below w.heap.size w wc))
      case first =>
       have H := HC29.out
       clear HC29
       by_cases c62 : t388 < 0
       ·rw [if_pos c62] at H
        have c62b0 : decide (t388 < 0) = true := decide_eq_true c62
        clear c62
        (first | rw [c62b0] | (simp only [i64_w, i32_w]; rw [c62b0]) | skip)
        have H' := Aside0.mk H
        clear H
        go_wp2
        go_meet
        case rel => exact ⟨_, (true), rs, H', ⟨by first | omega | exact Nat.le_refl _⟩, ⟨rq HO364⟩, ⟨rq HO375⟩, ⟨by (with_reducible repeat (first | apply Kd.R_alloc | apply Kd.R_drewN | apply Kd.R_drew)); exact Kd.R_mono HO371.out (fun _ hk => trivial)⟩, ⟨bk BK352⟩, ⟨bk BK372⟩, ⟨bq⟩⟩
       ·rw [if_neg c62] at H
        have c62b0 : decide (t388 < 0) = false := decide_eq_false c62
        clear c62
        (first | rw [c62b0] | (simp only [i64_w, i32_w]; rw [c62b0]) | skip)
        obtain ⟨t390, A63, H⟩ := bo H
        have H' := Aside0.mk H
        clear H
        go_wp2_with (first | (go_at_call 13; (with_reducible refine (laws_eqProbeClashS.calls k _ _ t373 _ _ t362 t390 _ ?side1 ?side2 ?side3 ?side4 A63.out).mono ?_); (case side1 => exact sr HO375); (case side2 => exact (Kd.R_reads' HO375.out).2.1); (case side3 => exact sr HO364); (case side4 => exact (Kd.R_reads' HO364.out).2.1); rintro e w64 ⟨rfl, hb⟩; have _ := ra (Kd.R_below (rq HO361) hb); have _ := ra (Kd.R_below (rq HO364) hb); have _ := ra (Kd.R_below (rq HO371) hb); have _ := ra (Kd.R_below (rq HO375) hb); have _ := ra (Kd.R_below (rq HO384) hb); have _ := bb (bk BK352) hb; have _ := bb (bk BK372) hb; have _ := bs hb; clear HO361 HO364 HO371 HO375 HO384 BK352 BK372 HB; rename_i HO361 HO364 HO371 HO375 HO384 BK352 BK372 HB; (try clear hb); (try clear hb2); (try clear hk); (try clear hi)))
        go_meet
        case rel => exact ⟨_, (!t390), rs, H', ⟨by first | omega | exact Nat.le_refl _⟩, ⟨rq HO364⟩, ⟨rq HO375⟩, ⟨by (with_reducible repeat (first | apply Kd.R_alloc | apply Kd.R_drewN | apply Kd.R_drew)); exact Kd.R_mono HO371.out (fun _ hk => trivial)⟩, ⟨bk BK352⟩, ⟨bk BK372⟩, ⟨bq⟩⟩
      case rest =>
       clear HC29
       try clear c4
       try clear c4b0
       try clear c8
       try clear c8b0
       try clear c20
       try clear c23
       try clear c26
       try clear c62
       try clear c62b0
       try clear hcz11_0
       try clear hcz11_1
       try clear hcz32_0
       try clear hcz32_1
       try clear hcz41_0
       try clear hcz41_1
       try clear hcz45_0
       try clear hcz45_1
       try clear hcz60_0
       try clear hcz60_1
       try clear hfz11_0
       try clear hfz11_1
       try clear hfz32_0
       try clear hfz32_1
       try clear hfz41_0
       try clear hfz41_1
       try clear hfz45_0
       try clear hfz45_1
       try clear hfz60_0
       try clear hfz60_1
       obtain ⟨kq, x63_28, rfl, HA, HJ28, HO_6, HO_9, HO_373001, BK352, BK372, HB⟩ := hcut
       have hl373001_28 := (Kd.R_reads' HO_373001.out).1
       rw [hl373001_28] at HO_373001
       (try simp only [hl373001_28])
       (try simp only [hl373001_28] at BK352)
       (try simp only [hl373001_28] at BK372)
       (try simp only [hl373001_28] at HO_6)
       (try simp only [hl373001_28] at HO_9)
       cases kq with
       | zero => exact absurd HA.out (by simp [laws_FnExactProbeWith.j0])
       | succ kj28 =>
        have H := HA.out
        clear HA
        simp only [laws_FnExactProbeWith.j0] at H
        by_cases c65 : x63_28 = true
        ·subst c65
         have H1 : (some false) = some true := by rw [if_pos rfl] at H; exact H
         clear H
         have H := H1
         exact absurd (Option.some.inj H) (by decide)
        ·replace c65 := Bool.eq_false_iff.mpr c65
         subst c65
         have H1 : ((laws_markProbeClashS.f kj28 t373 1).bind fun bt391 => ((laws_heldProbeClashS.f kj28 bt391.2 1).bind fun t393 => (if t393 < 0 then (some false) else (if t393 = bt391.1 then ((laws_toProbeTubeS.f kj28 l0).bind fun t394 => ((laws_toProbeTube.f kj28 a1_0 l1_1).bind fun bt397 => ((impl_ProbeWith.f kj28 t394 bt397.1 bt397.2).bind fun t401 => ((laws_eqProbeClashS.f kj28 t401 t362).bind fun t404 => (if t404 = true then ((laws_heldProbeClashS.f kj28 bt391.2 1).bind fun t405 => (if t405 < 0 then (some false) else (if t405 = bt391.1 then (some true) else (some false)))) else (some false)))))) else (some false))))) = some true := by rw [if_neg (show ¬ (false = true) by decide)] at H; exact H
         clear H
         have H := H1
         clear H1
         obtain ⟨⟨t391, t392⟩, A66, H⟩ := bo H
         try dsimp only at H
         obtain ⟨t393, A67, H⟩ := bo H
         by_cases c68 : t393 < 0
         ·rw [if_pos c68] at H
          exact absurd (Option.some.inj H) (by decide)
         ·rw [if_neg c68] at H
          have c68b0 : decide (t393 < 0) = false := decide_eq_false c68
          clear c68
          by_cases c71 : t393 = t391
          ·rw [if_pos c71] at H
           have c71b0 : (t393 == t391) = true := beq_iff_eq.mpr c71
           have c71b1 : (t393 != t391) = false := bne_eq_false_iff_eq.mpr c71
           clear c71
           obtain ⟨t394, A72, H⟩ := bo H
           obtain ⟨⟨t397, t398⟩, A73, H⟩ := bo H
           try dsimp only at H
           obtain ⟨t401, A74, H⟩ := bo H
           obtain ⟨t404, A75, H⟩ := bo H
           by_cases c76 : t404 = true
           ·subst c76
            replace H := it H rfl
            obtain ⟨t405, A77, H⟩ := bo H
            by_cases c78 : t405 < 0
            ·rw [if_pos c78] at H
             exact absurd (Option.some.inj H) (by decide)
            ·rw [if_neg c78] at H
             have c78b0 : decide (t405 < 0) = false := decide_eq_false c78
             clear c78
             by_cases c90 : t405 = t391
             ·rw [if_pos c90] at H
              have c90b0 : (t405 == t391) = true := beq_iff_eq.mpr c90
              have c90b1 : (t405 != t391) = false := bne_eq_false_iff_eq.mpr c90
              clear c90 H
              try go_wp2_with (first | ((with_reducible refine gate_callee (f := 16) rfl ?_); refine gl (some 66) Try.func16 #[.slice Ao49 t373.length co49, .int .i64 1] ?_; (with_reducible refine (laws_markProbeClashS.calls kj28 (fun k_ => some k_ = (.slice Ao49 t373.length co49 : Value).ownBlock) (.slice Ao49 t373.length co49) t373 1 t391 t392 w _ ?side1 ?side2 A66.out).mono ?_); (case side1 => repeat (first | (with_reducible first | exact HB.out | apply below_alloc | apply pw_below_drewN | apply below_drew1 | refine below_set ?_ GE352.out | refine below_set ?_ GE372.out) | exact HB.out)); (case side2 => exact Kd.R_tight rfl HO_9.out); rintro e w91 ⟨rfl, hy0, hb, hkp⟩; refine ⟨_, rfl, ?_⟩; have _ := ra (Kd.R_mono (ok' := fun k_ => some k_ ≠ (.slice Ao49 t373.length co49 : Value).ownBlock) (Kd.R_keptB (HO_6.out) hkp (fun k_ hk_ hs_ => (hk_) hs_)) (fun k_ hk_ => hk_.1)); have _ := ra (Kd.R_reok rfl hy0 (fun k_ e_ => HO_9.out.1 k_ e_)); have _ := ra (Kd.R_mono (ok' := fun k_ => True) (Kd.R_keptB ((Kd.R_apart' HO_373001.out (Kd.R_typed HO_9.out) (by decide))) hkp (fun k_ hk_ hs_ => (hk_.2) hs_)) (fun k_ hk_ => trivial)); have _ := ra (blk_kept (bk BK352) hkp (fun hs_ => (fun e_ => (Kd.R_ne HO_9.out BK352.out (by decide)) e_) hs_)); have _ := ra (blk_kept (bk BK372) hkp (fun hs_ => (fun e_ => (Kd.R_ne HO_9.out BK372.out (by decide)) e_) hs_)); have _ := ra (hb); clear HO_6 HO_9 HO_373001 BK352 BK372 HB; rename_i HO_6 HO_9 HO_373001 BK352 BK372 HB; (try clear hb); (try clear hkp); (try clear hy0)) | ((with_reducible refine gate_callee (f := 17) rfl ?_); refine goesL_ (some 69) rfl rfl Try.func17 (by kernel_rfl) rfl #[.slice Ao49 t392.length co49, .int .i64 1] rfl (by (try simp only [List.map_toArray, List.map_cons, List.map_nil]); first | done | (rw [show t392.length = t373.length from (Kd.R_reads' HO_9.out).1.symm] <;> rfl) | rfl | (simp only [List.length_drop, List.length_take]; rfl)) ?_; (with_reducible refine (laws_heldProbeClashS.calls kj28 _ _ t392 1 t393 _ ?side1 ?side2 A67.out).mono ?_); (case side1 => exact sr HO_9); (case side2 => rw [show t392.length = t373.length from (Kd.R_reads' HO_9.out).1.symm]; exact (Kd.R_reads' HO_9.out).2.1); rintro e w92 ⟨rfl, hb⟩; refine ⟨_, rfl, ?_⟩; have _ := ra (Kd.R_below (rq HO_6) hb); have _ := ra (Kd.R_below (rq HO_9) hb); have _ := ra (Kd.R_below (rq HO_373001) hb); have _ := bb (bk BK352) hb; have _ := bb (bk BK372) hb; have _ := bs hb; clear HO_6 HO_9 HO_373001 BK352 BK372 HB; rename_i HO_6 HO_9 HO_373001 BK352 BK372 HB; (try clear hb); (try clear hb2); (try clear hk); (try clear hi)))
              have _ := ra (Kd.R_drew HO_6.out)
              have _ := ra (Kd.R_drew HO_9.out)
              have _ := ra (Kd.R_drew HO_373001.out)
              have _ := ra (blk_drew BK352.out)
              have _ := ra (blk_drew BK372.out)
              have _ := ra (below_drew1 HB.out)
              clear HO_6 HO_9 HO_373001 BK352 BK372 HB
              rename_i HO_6 HO_9 HO_373001 BK352 BK372 HB
              refine start_ (n := 6) (S := fun w' => w'.cell? ⟨gb352, 0, none⟩ = some (.string a1_0) ∧ w'.cell? ⟨gb352, 1, none⟩ = some (.slice A1_1 l1_1.length c1_1)) (ds := []) (bl 6 0) (by kernel_rfl) rfl rfl ⟨(blk_cell BK352.out 0).trans rfl, (blk_cell BK352.out 1).trans rfl⟩ (fun hHeld => ?_)
              generalize w92.drew = w93 at HO_6 HO_9 HO_373001 BK352 BK372 HB hHeld ⊢
              refine pu 0 75 (bl 6 1) ?_
              refine tk 2 77 (bl 6 5) ?_ hHeld
              refine oe 1 76 (bl 6 7) (fun K hK => ?_)
              refine gs Try.func11 #[.slice A0 l0.length c0] ?_
              with_reducible refine (laws_toProbeTubeS.calls kj28 _ _ l0 t394 _ ?side1 ?side2 A72.out).mono ?_
              (case side1 => exact sc HR0)
              (case side2 => exact HC0.out)
              rintro e w94 ⟨v395, rfl, ho0, hb⟩
              refine ⟨_, rfl, ?_⟩
              have _ := ra (Kd.R_below (rq HO_6) hb)
              have _ := ra (Kd.R_below (rq HO_9) hb)
              have _ := ra (Kd.R_below (rq HO_373001) hb)
              have _ := ra (Kd.S_lower (Kd.S_newB (Kd.S_new' ho0 (Kd.R_lt (rq HO_373001))) (g := gb372) (o := .cells #[.string t368, .slice Ao46 t389.length co46] 40 (0, 0)) (bk BK372)) (below_size bq))
              have _ := bb (bk BK352) hb
              have _ := bb (bk BK372) hb
              have _ := bs hb
              clear HO_6 HO_9 HO_373001 BK352 BK372 HB
              rename_i HO_6 HO_9 HO_373001 HO396 BK352 BK372 HB
              (try clear hb)
              (try clear hb2)
              (try clear hk)
              (try clear hi)
              (try clear ho0)
              refine hK.out _ _ ⟨(blk_cell BK352.out 0).trans rfl, (blk_cell BK352.out 1).trans rfl⟩ (fun hHeld => ?_)
              clear hK K
              refine nm 76 ?_
              refine oe 3 78 (bl 6 15) (fun K hK => ?_)
              refine gs Try.func20 #[.agg #[.string a1_0, .slice A1_1 l1_1.length c1_1]] ?_
              with_reducible refine (laws_toProbeTube.calls kj28 a1_0 _ _ l1_1 t397 t398 _ ?side1 ?side2 A73.out).mono ?_
              (case side1 => exact sc HR1_1)
              (case side2 => exact HC1_1.out)
              rintro e w95 ⟨v399, rfl, ho0, hb⟩
              refine ⟨_, rfl, ?_⟩
              have _ := ra (Kd.R_below (rq HO_6) hb)
              have _ := ra (Kd.R_below (rq HO_9) hb)
              have _ := ra (Kd.R_elder' (rq HO_373001) (Kd.R_base ho0) hb)
              have _ := ra (Kd.S_elder' (by (with_reducible repeat (first | apply Kd.S_alloc | apply Kd.S_drewN | apply Kd.S_drew)); exact HO396.out) (Kd.R_base ho0) hb)
              have _ := ra (Kd.R_lower (Kd.R_new' ho0 (Kd.R_lt (rq HO_373001))) (below_size bq))
              have _ := bb (bk BK352) hb
              have _ := bb (bk BK372) hb
              have _ := bs hb
              clear HO_6 HO_9 HO_373001 HO396 BK352 BK372 HB
              rename_i HO_6 HO_9 HO_373001 HO396 HO400 BK352 BK372 HB
              (try clear hb)
              (try clear hb2)
              (try clear hk)
              (try clear hi)
              (try clear ho0)
              obtain ⟨Ao96, co96, eo96⟩ := Kd.S_slice HO396.out
              (first | subst eo96 | (injection eo96 with f1_ f2_ f3_; have f4_ := f1_.symm; have f5_ := f3_.symm; clear f1_ f2_ f3_; subst f4_; subst f5_))
              obtain ⟨Ao97, co97, eo97⟩ := Kd.R_slice HO400.out
              (first | subst eo97 | (injection eo97 with f1_ f2_ f3_; have f4_ := f1_.symm; have f5_ := f3_.symm; clear f1_ f2_ f3_; subst f4_; subst f5_))
              refine hK.out _ _ ⟨(blk_cell BK352.out 0).trans rfl, (blk_cell BK352.out 1).trans rfl⟩ (fun hHeld => ?_)
              clear hK K
              refine nm 78 ?_
              refine oe 4 79 (bl 6 31) (fun K hK => ?_)
              refine gs Try.func21 #[.slice Ao96 t394.length co96, .agg #[.string t397, .slice Ao97 t398.length co97]] ?_
              with_reducible refine (impl_ProbeWith.calls kj28 _ _ t394 t397 _ _ t398 t401 _ ?side1 ?side2 ?side3 ?side4 A74.out).mono ?_
              (case side1 => repeat (first | exact (Kd.S_reads' HO396.out).2.2 | (with_reducible refine Kd.C_alloc ?_ _) | (with_reducible refine Kd.C_drewN ?_ _) | (with_reducible refine Kd.C_drew ?_)))
              (case side2 => exact (Kd.S_reads' HO396.out).2.1)
              (case side3 => exact sr HO400)
              (case side4 => exact (Kd.R_reads' HO400.out).2.1)
              rintro e w98 ⟨v402, rfl, ho0, hb⟩
              refine ⟨_, rfl, ?_⟩
              have _ := ra (Kd.R_elder' (rq HO_6) (Kd.R_base ho0) hb)
              have _ := ra (Kd.R_elder' (rq HO_9) (Kd.R_base ho0) hb)
              have _ := ra (Kd.R_below (rq HO_373001) hb)
              have _ := ra (Kd.S_below (by (with_reducible repeat (first | apply Kd.S_alloc | apply Kd.S_drewN | apply Kd.S_drew)); exact HO396.out) hb)
              have _ := ra (Kd.R_below (rq HO400) hb)
              have _ := ra (Kd.R_lower (Kd.R_new' (Kd.R_new' ho0 (Kd.R_lt (rq HO_6))) (Kd.R_lt (rq HO_9))) (below_size bq))
              have _ := bb (bk BK352) hb
              have _ := bb (bk BK372) hb
              have _ := bs hb
              clear HO_6 HO_9 HO_373001 HO396 HO400 BK352 BK372 HB
              rename_i HO_6 HO_9 HO_373001 HO396 HO400 HO403 BK352 BK372 HB
              (try clear hb)
              (try clear hb2)
              (try clear hk)
              (try clear hi)
              (try clear ho0)
              refine hK.out _ _ ⟨(blk_cell BK352.out 0).trans rfl, (blk_cell BK352.out 1).trans rfl⟩ (fun hHeld => ?_)
              clear hK K
              refine nm 79 ?_
              refine pu 5 13 (bl 6 63) ?_
              refine done_ (by kernel_rfl) ?_
              obtain ⟨Ao99, co99, eo99⟩ := Kd.R_slice HO403.out
              subst eo99
              try go_wp2_with (first | ((with_reducible refine gate_callee (f := 13) rfl ?_); refine gl (some 82) Try.func13 #[.slice Ao99 t401.length co99, .slice Ao50 t362.length co50] ?_; (with_reducible refine (laws_eqProbeClashS.calls kj28 _ _ t401 _ _ t362 true _ ?side1 ?side2 ?side3 ?side4 A75.out).mono ?_); (case side1 => exact sr HO403); (case side2 => exact (Kd.R_reads' HO403.out).2.1); (case side3 => exact sr HO_6); (case side4 => exact (Kd.R_reads' HO_6.out).2.1); rintro e w100 ⟨rfl, hb⟩; refine ⟨_, rfl, ?_⟩; have _ := ra (Kd.R_below (rq HO_6) hb); have _ := ra (Kd.R_below (rq HO_9) hb); have _ := ra (Kd.R_below (rq HO_373001) hb); have _ := ra (Kd.S_below (by (with_reducible repeat (first | apply Kd.S_alloc | apply Kd.S_drewN | apply Kd.S_drew)); exact HO396.out) hb); have _ := ra (Kd.R_below (rq HO400) hb); have _ := ra (Kd.R_below (rq HO403) hb); have _ := bb (bk BK352) hb; have _ := bb (bk BK372) hb; have _ := bs hb; clear HO_6 HO_9 HO_373001 HO396 HO400 HO403 BK352 BK372 HB; rename_i HO_6 HO_9 HO_373001 HO396 HO400 HO403 BK352 BK372 HB; (try clear hb); (try clear hb2); (try clear hk); (try clear hi)) | ((with_reducible refine gate_callee (f := 17) rfl ?_); refine goesL_ (some 86) rfl rfl Try.func17 (by kernel_rfl) rfl #[.slice Ao49 t392.length co49, .int .i64 1] rfl (by (try simp only [List.map_toArray, List.map_cons, List.map_nil]); first | done | (rw [show t392.length = t373.length from (Kd.R_reads' HO_9.out).1.symm] <;> rfl) | rfl | (simp only [List.length_drop, List.length_take]; rfl)) ?_; (with_reducible refine (laws_heldProbeClashS.calls kj28 _ _ t392 1 t405 _ ?side1 ?side2 A77.out).mono ?_); (case side1 => exact sr HO_9); (case side2 => rw [show t392.length = t373.length from (Kd.R_reads' HO_9.out).1.symm]; exact (Kd.R_reads' HO_9.out).2.1); rintro e w101 ⟨rfl, hb⟩; refine ⟨_, rfl, ?_⟩; have _ := ra (Kd.R_below (rq HO_6) hb); have _ := ra (Kd.R_below (rq HO_9) hb); have _ := ra (Kd.R_below (rq HO_373001) hb); have _ := ra (Kd.S_below (by (with_reducible repeat (first | apply Kd.S_alloc | apply Kd.S_drewN | apply Kd.S_drew)); exact HO396.out) hb); have _ := ra (Kd.R_below (rq HO400) hb); have _ := ra (Kd.R_below (rq HO403) hb); have _ := bb (bk BK352) hb; have _ := bb (bk BK372) hb; have _ := bs hb; clear HO_6 HO_9 HO_373001 HO396 HO400 HO403 BK352 BK372 HB; rename_i HO_6 HO_9 HO_373001 HO396 HO400 HO403 BK352 BK372 HB; (try clear hb); (try clear hb2); (try clear hk); (try clear hi)))
              go_ret
              exact ⟨re, bq⟩
             ·rw [if_neg c90] at H
              exact absurd (Option.some.inj H) (by decide)
           ·replace c76 := Bool.eq_false_iff.mpr c76
            subst c76
            have H1 : (some false) = some true := by rw [if_neg (show ¬ (false = true) by decide)] at H; exact H
            clear H
            have H := H1
            exact absurd (Option.some.inj H) (by decide)
          ·rw [if_neg c71] at H
           exact absurd (Option.some.inj H) (by decide)
     ·replace c26 := Bool.eq_false_iff.mpr c26
      subst c26
      have H1 : (some false) = some true := by rw [if_neg (show ¬ (false = true) by decide)] at H; exact H
      clear H
      have H := H1
      exact absurd (Option.some.inj H) (by decide)
    ·replace c23 := Bool.eq_false_iff.mpr c23
     subst c23
     have H1 : (some false) = some true := by rw [if_neg (show ¬ (false = true) by decide)] at H; exact H
     clear H
     have H := H1
     exact absurd (Option.some.inj H) (by decide)
   ·replace c20 := Bool.eq_false_iff.mpr c20
    subst c20
    have H1 : (some false) = some true := by rw [if_neg (show ¬ (false = true) by decide)] at H; exact H
    clear H
    have H := H1
    exact absurd (Option.some.inj H) (by decide)
end Go.Proofs.Ytdbomnhdpniigaa.PA
