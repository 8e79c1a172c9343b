/- Contracts of the functions laws_FnExactProbeAsk. (Began as a print of the kit's tool.) -/
import Derived.Test.YtdbomnhdpniigaaPAd
import Derived.Test.YtdbomnhdpniigaaCx
import Derived.Test.YtdbomnhdpniigaaCm
import Derived.Test.YtdbomnhdpniigaaCy
import Derived.Test.YtdbomnhdpniigaaGSlotZ
import Derived.Test.YtdbomnhdpniigaaGConv
import Derived.Test.YtdbomnhdpniigaaGSlotT
import Derived.Test.YtdbomnhdpniigaaGConv
import Derived.Test.YtdbomnhdpniigaaGAskS
import Derived.Test.YtdbomnhdpniigaaGAsk
import Derived.Test.YtdbomnhdpniigaaGClash
import Derived.Test.YtdbomnhdpniigaaGSlotE
import Derived.Test.YtdbomnhdpniigaaGConv
import Derived.Test.YtdbomnhdpniigaaGSlotM
import Derived.Test.YtdbomnhdpniigaaGMark
import Derived.Test.YtdbomnhdpniigaaGClash
import Derived.Test.YtdbomnhdpniigaaGClash
namespace Go.Proofs.Ytdbomnhdpniigaa.PA
open Go.RowKit Go.Proofs.YtdbomnhdpniigaaW.PrintWords Go.Proofs.YtdbomnhdpniigaaW.PrintLast Go.Proofs.YtdbomnhdpniigaaW.PrintMore Go.Proofs.Ytdbomnhdpniigaa.Z
attribute [local go_sem] max2_int min2_int max_two min_two max_three min_three max_four min_four
set_option linter.unusedVariables false
set_option linter.unusedSimpArgs false
set_option maxHeartbeats 8000000 in
set_option maxRecDepth 100000 in
theorem laws_FnExactProbeAsk.calls (k : Nat) (A0_0 : Option Addr) (c0_0 : Nat) (l0_0 : List (S147)) (a1_0 : ByteArray) (A1_1 : Option Addr) (c1_1 : Nat) (l1_1 : List (S121)) (w : World) (hr0_0 : Kd.C k147 w A0_0 l0_0.length l0_0) (hc0_0 : l0_0.length ≤ c0_0) (hr1_1 : Kd.C k121 w A1_1 l1_1.length l1_1) (hc1_1 : l1_1.length ≤ c1_1) (h : laws_FnExactProbeAsk.f k l0_0 a1_0 l1_1 = some true) :
  Calls Try.prog 8 #[.agg #[.slice A0_0 l0_0.length c0_0], .agg #[.string a1_0, .slice A1_1 l1_1.length c1_1]] w fun e w' => e = .returned (.bool true) ∧ Below w.heap.size w w' := by
 have hu71 := Try.underlying71
 have hu35 := Try.underlying35
 have hu65 := Try.underlying65
 have hu40 := Try.underlying40
 have HR0_0 := Aside0.mk hr0_0
 have HC0_0 := Aside0.mk hc0_0
 clear hr0_0 hc0_0
 have HR1_1 := Aside0.mk hr1_1
 have HC1_1 := Aside0.mk hc1_1
 clear hr1_1 hc1_1
 have HB := ra (Below.refl w.heap.size w)
 have H : ((laws_szProbeIndex.f k l0_0 1048576).bind fun t543 => (if t543 < 0 then (some true) else ((laws_szProbeTube.f a1_0 l1_1 t543).bind fun t544 => (if t544 < 0 then (some true) else ((laws_toProbeIndex.f k l0_0).bind fun t545 => ((laws_toProbeTube.f k a1_0 l1_1).bind fun bt548 => ((spec_ProbeAsk.f k t545 bt548.1 bt548.2).bind fun t552 => ((laws_toProbeIndex.f k l0_0).bind fun t555 => ((laws_toProbeTube.f k a1_0 l1_1).bind fun bt559 => ((impl_ProbeAsk.f k t555 bt559.1 bt559.2).bind fun t564 => ((laws_eqProbeClashS.f k t564 t552).bind fun t567 => (if t567 = true then ((laws_toProbeIndex.f k l0_0).bind fun t568 => ((laws_eqProbeIndex.f k t555 t568).bind fun t571 => (if t571 = true then ((laws_toProbeTube.f k a1_0 l1_1).bind fun bt572 => ((laws_eqProbeTube.f k bt559.1 bt559.2 bt572.1 bt572.2).bind fun t576 => (if t576 = true then ((laws_markProbeIndex.f k t555 1).bind fun t577 => ((laws_markProbeTube.f k bt559.1 bt559.2 t577).bind fun bt578 => (if bt578.1 < 0 then (laws_FnExactProbeAsk.j0 k t552 t564 true l0_0 a1_0 l1_1) else ((laws_eqProbeClashS.f k t564 t552).bind fun t580 => (laws_FnExactProbeAsk.j0 k t552 t564 (!t580) l0_0 a1_0 l1_1))))) else (some false)))) else (some false)))) else (some false))))))))))))) = some true := h
 clear h
 obtain ⟨t543, A3, H⟩ := bo H
 by_cases c4 : t543 < 0
 ·rw [if_pos c4] at H
  have c4b0 : decide (t543 < 0) = true := decide_eq_true c4
  clear c4 H
  go_enter Try.func8, Try.ntmps8
  go_wp2_with (first | ((with_reducible refine gate_dst (N := 2) rfl ?_); refine be 2 #[.slice A0_0 l0_0.length c0_0] 71 ?_; intro gb541 hg w5 hbox hb; have _ := bs hb; have _ := ra (hbox); have _ := bz (w0 := w) hg; have _ := bz (w0 := w) hg; clear HB; rename_i HB BK541 GW541 GE541; clear hb hbox hg) | ((with_reducible refine gate_dst (N := 3) rfl ?_); refine be 3 #[.string a1_0, .slice A1_1 l1_1.length c1_1] 35 ?_; intro gb542 hg w6 hbox hb; have _ := bb (bk BK541) hb; have _ := bs hb; have _ := ra (hbox); have _ := bz (w0 := w) hg; have _ := bz (w0 := w) hg; have _ := bn hg (bk BK541); have _ := bm hg (bk BK541); clear BK541 HB; rename_i BK541 HB BK542 GW542 GE542 NB541_542 NB542_541; clear hb hbox hg; have hnb7 := NB541_542.out; have hnc7 := NB542_541.out; obtain ⟨hcz8_0, hfz8_0⟩ := zc1 BK541) | ((with_reducible refine gate_callee (f := 41) rfl ?_); refine gl (some 16) Try.func41 #[.agg #[.slice A0_0 l0_0.length c0_0], .int .i64 1048576] ?_; (with_reducible refine (laws_szProbeIndex.calls k _ _ l0_0 1048576 t543 _ ?side1 ?side2 A3.out).mono ?_); (case side1 => exact sc HR0_0); (case side2 => exact HC0_0.out); rintro e w9 ⟨rfl, hb⟩; refine ⟨_, rfl, ?_⟩; have _ := bb (bk BK541) hb; have _ := bb (bk BK542) hb; have _ := bs hb; clear BK541 BK542 HB; rename_i BK541 BK542 HB; (try clear hb); (try clear hb2); (try clear hk); (try clear hi)))
  go_ret
  exact ⟨re, bq⟩
 ·rw [if_neg c4] at H
  have c4b0 : decide (t543 < 0) = false := decide_eq_false c4
  clear c4
  obtain ⟨t544, A10, H⟩ := bo H
  by_cases c11 : t544 < 0
  ·rw [if_pos c11] at H
   have c11b0 : decide (t544 < 0) = true := decide_eq_true c11
   clear c11 H
   go_enter Try.func8, Try.ntmps8
   go_wp2_with (first | ((with_reducible refine gate_dst (N := 2) rfl ?_); refine be 2 #[.slice A0_0 l0_0.length c0_0] 71 ?_; intro gb541 hg w12 hbox hb; have _ := bs hb; have _ := ra (hbox); have _ := bz (w0 := w) hg; have _ := bz (w0 := w) hg; clear HB; rename_i HB BK541 GW541 GE541; clear hb hbox hg) | ((with_reducible refine gate_dst (N := 3) rfl ?_); refine be 3 #[.string a1_0, .slice A1_1 l1_1.length c1_1] 35 ?_; intro gb542 hg w13 hbox hb; have _ := bb (bk BK541) hb; have _ := bs hb; have _ := ra (hbox); have _ := bz (w0 := w) hg; have _ := bz (w0 := w) hg; have _ := bn hg (bk BK541); have _ := bm hg (bk BK541); clear BK541 HB; rename_i BK541 HB BK542 GW542 GE542 NB541_542 NB542_541; clear hb hbox hg; have hnb14 := NB541_542.out; have hnc14 := NB542_541.out; obtain ⟨hcz15_0, hfz15_0⟩ := zc1 BK541) | ((with_reducible refine gate_callee (f := 41) rfl ?_); refine gl (some 16) Try.func41 #[.agg #[.slice A0_0 l0_0.length c0_0], .int .i64 1048576] ?_; (with_reducible refine (laws_szProbeIndex.calls k _ _ l0_0 1048576 t543 _ ?side1 ?side2 A3.out).mono ?_); (case side1 => exact sc HR0_0); (case side2 => exact HC0_0.out); rintro e w16 ⟨rfl, hb⟩; refine ⟨_, rfl, ?_⟩; have _ := bb (bk BK541) hb; have _ := bb (bk BK542) hb; have _ := bs hb; clear BK541 BK542 HB; rename_i BK541 BK542 HB; (try clear hb); (try clear hb2); (try clear hk); (try clear hi); obtain ⟨hcz17_0, hcz17_1, hfz17_0, hfz17_1⟩ := zc2 BK542) | ((with_reducible refine gate_callee (f := 18) rfl ?_); refine gl (some 21) Try.func18 #[.agg #[.string a1_0, .slice A1_1 l1_1.length c1_1], .int .i64 t543] ?_; (with_reducible refine (laws_szProbeTube.calls a1_0 _ _ l1_1 t543 t544 _ ?side1 ?side2 A10.out).mono ?_); (case side1 => exact sc HR1_1); (case side2 => exact HC1_1.out); rintro e w18 ⟨rfl, hb⟩; refine ⟨_, rfl, ?_⟩; have _ := bb (bk BK541) hb; have _ := bb (bk BK542) hb; have _ := bs hb; clear BK541 BK542 HB; rename_i BK541 BK542 HB; (try clear hb); (try clear hb2); (try clear hk); (try clear hi)))
   go_ret
   exact ⟨re, bq⟩
  ·rw [if_neg c11] at H
   have c11b0 : decide (t544 < 0) = false := decide_eq_false c11
   clear c11
   obtain ⟨t545, A19, H⟩ := bo H
   obtain ⟨⟨t548, t549⟩, A20, H⟩ := bo H
   try dsimp only at H
   obtain ⟨t552, A21, H⟩ := bo H
   obtain ⟨t555, A22, H⟩ := bo H
   obtain ⟨⟨t559, t560⟩, A23, H⟩ := bo H
   try dsimp only at H
   obtain ⟨t564, A24, H⟩ := bo H
   obtain ⟨t567, A25, H⟩ := bo H
   by_cases c26 : t567 = true
   ·subst c26
    replace H := it H rfl
    obtain ⟨t568, A27, H⟩ := bo H
    obtain ⟨t571, A28, H⟩ := bo H
    by_cases c29 : t571 = true
    ·subst c29
     replace H := it H rfl
     obtain ⟨⟨t572, t573⟩, A30, H⟩ := bo H
     try dsimp only at H
     obtain ⟨t576, A31, H⟩ := bo H
     by_cases c32 : t576 = true
     ·subst c32
      replace H := it H rfl
      obtain ⟨t577, A33, H⟩ := bo H
      obtain ⟨⟨t578, t579⟩, A34, H⟩ := bo H
      try dsimp only at H
      have HC35 := Aside0.mk H
      clear H
      go_enter Try.func8, Try.ntmps8
      try go_wp2_with (first | ((with_reducible refine gate_dst (N := 2) rfl ?_); refine be 2 #[.slice A0_0 l0_0.length c0_0] 71 ?_; intro gb541 hg w36 hbox hb; have _ := bs hb; have _ := ra (hbox); have _ := bz (w0 := w) hg; have _ := bz (w0 := w) hg; clear HB; rename_i HB BK541 GW541 GE541; clear hb hbox hg) | ((with_reducible refine gate_dst (N := 3) rfl ?_); refine be 3 #[.string a1_0, .slice A1_1 l1_1.length c1_1] 35 ?_; intro gb542 hg w37 hbox hb; have _ := bb (bk BK541) hb; have _ := bs hb; have _ := ra (hbox); have _ := bz (w0 := w) hg; have _ := bz (w0 := w) hg; have _ := bn hg (bk BK541); have _ := bm hg (bk BK541); clear BK541 HB; rename_i BK541 HB BK542 GW542 GE542 NB541_542 NB542_541; clear hb hbox hg; have hnb38 := NB541_542.out; have hnc38 := NB542_541.out; obtain ⟨hcz39_0, hfz39_0⟩ := zc1 BK541) | ((with_reducible refine gate_callee (f := 41) rfl ?_); refine gl (some 16) Try.func41 #[.agg #[.slice A0_0 l0_0.length c0_0], .int .i64 1048576] ?_; (with_reducible refine (laws_szProbeIndex.calls k _ _ l0_0 1048576 t543 _ ?side1 ?side2 A3.out).mono ?_); (case side1 => exact sc HR0_0); (case side2 => exact HC0_0.out); rintro e w40 ⟨rfl, hb⟩; refine ⟨_, rfl, ?_⟩; have _ := bb (bk BK541) hb; have _ := bb (bk BK542) hb; have _ := bs hb; clear BK541 BK542 HB; rename_i BK541 BK542 HB; (try clear hb); (try clear hb2); (try clear hk); (try clear hi); obtain ⟨hcz41_0, hcz41_1, hfz41_0, hfz41_1⟩ := zc2 BK542) | ((with_reducible refine gate_callee (f := 18) rfl ?_); refine gl (some 21) Try.func18 #[.agg #[.string a1_0, .slice A1_1 l1_1.length c1_1], .int .i64 t543] ?_; (with_reducible refine (laws_szProbeTube.calls a1_0 _ _ l1_1 t543 t544 _ ?side1 ?side2 A10.out).mono ?_); (case side1 => exact sc HR1_1); (case side2 => exact HC1_1.out); rintro e w42 ⟨rfl, hb⟩; refine ⟨_, rfl, ?_⟩; have _ := bb (bk BK541) hb; have _ := bb (bk BK542) hb; have _ := bs hb; clear BK541 BK542 HB; rename_i BK541 BK542 HB; (try clear hb); (try clear hb2); (try clear hk); (try clear hi)))
      have _ := ra (blk_drew BK541.out)
      have _ := ra (blk_drew BK542.out)
      have _ := ra (below_drew1 HB.out)
      clear BK541 BK542 HB
      rename_i BK541 BK542 HB
      refine start_ (n := 6) (S := fun w' => w'.cell? ⟨gb541, 0, none⟩ = some (.slice A0_0 l0_0.length c0_0) ∧ w'.cell? ⟨gb542, 0, none⟩ = some (.string a1_0) ∧ w'.cell? ⟨gb542, 1, none⟩ = some (.slice A1_1 l1_1.length c1_1)) (ds := []) (bl 6 0) (by kernel_rfl) rfl rfl ⟨(blk_cell BK541.out 0).trans rfl, (blk_cell BK542.out 0).trans rfl, (blk_cell BK542.out 1).trans rfl⟩ (fun hHeld => ?_)
      generalize w42.drew = w43 at BK541 BK542 HB hHeld ⊢
      refine tk 0 24 (bl 6 1) ?_ hHeld
      refine tk 2 26 (bl 6 5) ?_ hHeld
      refine oe 1 25 (bl 6 7) (fun K hK => ?_)
      refine gs Try.func43 #[.agg #[.slice A0_0 l0_0.length c0_0]] ?_
      with_reducible refine (laws_toProbeIndex.calls k _ _ l0_0 t545 _ ?side1 ?side2 A19.out).mono ?_
      (case side1 => exact sc HR0_0)
      (case side2 => exact HC0_0.out)
      rintro e w44 ⟨v546, rfl, ho0, hb⟩
      refine ⟨_, rfl, ?_⟩
      have _ := ra (Kd.S_lower ho0 (below_size bq))
      have _ := bb (bk BK541) hb
      have _ := bb (bk BK542) hb
      have _ := bs hb
      clear BK541 BK542 HB
      rename_i HO547 BK541 BK542 HB
      (try clear hb)
      (try clear hb2)
      (try clear hk)
      (try clear hi)
      (try clear ho0)
      refine hK.out _ _ ⟨(blk_cell BK541.out 0).trans rfl, (blk_cell BK542.out 0).trans rfl, (blk_cell BK542.out 1).trans rfl⟩ (fun hHeld => ?_)
      clear hK K
      refine nm 25 ?_
      refine oe 3 27 (bl 6 15) (fun K hK => ?_)
      refine gs Try.func20 #[.agg #[.string a1_0, .slice A1_1 l1_1.length c1_1]] ?_
      with_reducible refine (laws_toProbeTube.calls k a1_0 _ _ l1_1 t548 t549 _ ?side1 ?side2 A20.out).mono ?_
      (case side1 => exact sc HR1_1)
      (case side2 => exact HC1_1.out)
      rintro e w45 ⟨v550, rfl, ho0, hb⟩
      refine ⟨_, rfl, ?_⟩
      have _ := ra (Kd.S_below (by (with_reducible repeat (first | apply Kd.S_alloc | apply Kd.S_drewN | apply Kd.S_drew)); exact HO547.out) hb)
      have _ := ra (Kd.R_lower ho0 (below_size bq))
      have _ := bb (bk BK541) hb
      have _ := bb (bk BK542) hb
      have _ := bs hb
      clear HO547 BK541 BK542 HB
      rename_i HO547 HO551 BK541 BK542 HB
      (try clear hb)
      (try clear hb2)
      (try clear hk)
      (try clear hi)
      (try clear ho0)
      obtain ⟨Ao46, co46, eo46⟩ := Kd.S_slice HO547.out
      (first | subst eo46 | (injection eo46 with f1_ f2_ f3_; have f4_ := f1_.symm; have f5_ := f3_.symm; clear f1_ f2_ f3_; subst f4_; subst f5_))
      obtain ⟨Ao47, co47, eo47⟩ := Kd.R_slice HO551.out
      (first | subst eo47 | (injection eo47 with f1_ f2_ f3_; have f4_ := f1_.symm; have f5_ := f3_.symm; clear f1_ f2_ f3_; subst f4_; subst f5_))
      refine hK.out _ _ ⟨(blk_cell BK541.out 0).trans rfl, (blk_cell BK542.out 0).trans rfl, (blk_cell BK542.out 1).trans rfl⟩ (fun hHeld => ?_)
      clear hK K
      refine nm 27 ?_
      refine oe 4 28 (bl 6 31) (fun K hK => ?_)
      refine gs Try.func42 #[.agg #[.slice Ao46 t545.length co46], .agg #[.string t548, .slice Ao47 t549.length co47]] ?_
      with_reducible refine (spec_ProbeAsk.calls k _ _ t545 t548 _ _ t549 t552 _ ?side1 ?side2 ?side3 ?side4 A21.out).mono ?_
      (case side1 => repeat (first | exact (Kd.S_reads' HO547.out).2.2 | (with_reducible refine Kd.C_alloc ?_ _) | (with_reducible refine Kd.C_drewN ?_ _) | (with_reducible refine Kd.C_drew ?_)))
      (case side2 => exact (Kd.S_reads' HO547.out).2.1)
      (case side3 => exact sr HO551)
      (case side4 => exact (Kd.R_reads' HO551.out).2.1)
      rintro e w48 ⟨v553, rfl, ho0, hb⟩
      refine ⟨_, rfl, ?_⟩
      have _ := ra (Kd.S_below (by (with_reducible repeat (first | apply Kd.S_alloc | apply Kd.S_drewN | apply Kd.S_drew)); exact HO547.out) hb)
      have _ := ra (Kd.R_below (rq HO551) hb)
      have _ := ra (Kd.R_lower ho0 (below_size bq))
      have _ := bb (bk BK541) hb
      have _ := bb (bk BK542) hb
      have _ := bs hb
      clear HO547 HO551 BK541 BK542 HB
      rename_i HO547 HO551 HO554 BK541 BK542 HB
      (try clear hb)
      (try clear hb2)
      (try clear hk)
      (try clear hi)
      (try clear ho0)
      refine hK.out _ _ ⟨(blk_cell BK541.out 0).trans rfl, (blk_cell BK542.out 0).trans rfl, (blk_cell BK542.out 1).trans rfl⟩ (fun hHeld => ?_)
      clear hK K
      refine nm 28 ?_
      refine pu 5 6 (bl 6 63) ?_
      refine done_ (by kernel_rfl) ?_
      obtain ⟨hcz49_0, hfz49_0⟩ := zc1 BK541
      try go_wp2_with (first | ((with_reducible refine gate_callee (f := 43) rfl ?_); refine gl (some 30) Try.func43 #[.agg #[.slice A0_0 l0_0.length c0_0]] ?_; (with_reducible refine (laws_toProbeIndex.calls k _ _ l0_0 t555 _ ?side1 ?side2 A22.out).mono ?_); (case side1 => exact sc HR0_0); (case side2 => exact HC0_0.out); rintro e w50 ⟨v556, rfl, ho0, hb⟩; refine ⟨_, rfl, ?_⟩; have _ := ra (Kd.S_elder' (by (with_reducible repeat (first | apply Kd.S_alloc | apply Kd.S_drewN | apply Kd.S_drew)); exact HO547.out) (Kd.S_base ho0) hb); have _ := ra (Kd.R_below (rq HO551) hb); have _ := ra (Kd.R_below (rq HO554) hb); have _ := ra (Kd.S_lower (Kd.S_new' ho0 (Kd.S_lt (by (with_reducible repeat (first | apply Kd.S_alloc | apply Kd.S_drewN | apply Kd.S_drew)); exact HO547.out))) (below_size bq)); have _ := bb (bk BK541) hb; have _ := bb (bk BK542) hb; have _ := bs hb; clear HO547 HO551 HO554 BK541 BK542 HB; rename_i HO547 HO551 HO554 HO557 BK541 BK542 HB; (try clear hb); (try clear hb2); (try clear hk); (try clear hi); (try clear ho0)) | ((with_reducible refine gate_dst (N := 7) rfl ?_); refine be 7 #[.slice none 0 0] 65 ?_; intro gb558 hg w51 hbox hb; have _ := ra (Kd.S_below (by (with_reducible repeat (first | apply Kd.S_alloc | apply Kd.S_drewN | apply Kd.S_drew)); exact HO547.out) hb); have _ := ra (Kd.R_below (rq HO551) hb); have _ := ra (Kd.R_below (rq HO554) hb); have _ := ra (Kd.S_below (by (with_reducible repeat (first | apply Kd.S_alloc | apply Kd.S_drewN | apply Kd.S_drew)); exact HO557.out) hb); have _ := bb (bk BK541) hb; have _ := bb (bk BK542) hb; have _ := bs hb; have _ := ra (hbox); have _ := bz (w0 := w) hg; have _ := bz (w0 := w) hg; have _ := bn hg (bk BK541); have _ := bm hg (bk BK541); have _ := bn hg (bk BK542); have _ := bm hg (bk BK542); clear HO547 HO551 HO554 HO557 BK541 BK542 HB; rename_i HO547 HO551 HO554 HO557 BK541 BK542 HB BK558 GW558 GE558 NB541_558 NB558_541 NB542_558 NB558_542; clear hb hbox hg; obtain ⟨Ao52, co52, eo52⟩ := Kd.S_slice HO557.out; subst eo52; have hnb53 := NB558_541.out; have hnc53 := NB541_558.out; have hnb54 := NB558_542.out; have hnc54 := NB542_558.out; obtain ⟨hcz55_0, hfz55_0⟩ := zc1 BK558; obtain ⟨hcz56_0, hcz56_1, hfz56_0, hfz56_1⟩ := zc2 BK542) | ((with_reducible refine gate_callee (f := 20) rfl ?_); refine gl (some 32) Try.func20 #[.agg #[.string a1_0, .slice A1_1 l1_1.length c1_1]] ?_; (with_reducible refine (laws_toProbeTube.calls k a1_0 _ _ l1_1 t559 t560 _ ?side1 ?side2 A23.out).mono ?_); (case side1 => exact Kd.C_below HR1_1.out bq); (case side2 => exact HC1_1.out); rintro e w57 ⟨v561, rfl, ho0, hb⟩; refine ⟨_, rfl, ?_⟩; have _ := ra (Kd.S_below (by (with_reducible repeat (first | apply Kd.S_alloc | apply Kd.S_drewN | apply Kd.S_drew)); exact (Kd.S_mono (Kd.S_far (p := ⟨gb558, 0, none⟩) (Kd.S_types HO547.out BK558.out (by decide)) (fun _ hk => hk.2) (.slice Ao52 t555.length co52)) (fun _ h_ => h_.1))) hb); have _ := ra (Kd.R_elder' (Kd.R_mono (rf (Kd.R_types HO551.out BK558.out (by decide))) (fun _ h_ => h_.1)) (Kd.R_base ho0) hb); have _ := ra (Kd.R_below (Kd.R_mono (rf (Kd.R_types HO554.out BK558.out (by decide))) (fun _ h_ => h_.1)) hb); have _ := ra (Kd.S_below (by (with_reducible repeat (first | apply Kd.S_alloc | apply Kd.S_drewN | apply Kd.S_drew)); exact (Kd.S_mono (Kd.S_far (p := ⟨gb558, 0, none⟩) (Kd.S_types HO557.out BK558.out (by decide)) (fun _ hk => hk.2) (.slice Ao52 t555.length co52)) (fun _ h_ => h_.1))) hb); have _ := ra (Kd.R_lower (Kd.R_new' ho0 (Kd.R_lt (Kd.R_mono (rf (Kd.R_types HO551.out BK558.out (by decide))) (fun _ h_ => h_.1)))) (below_size bq)); have _ := bb (bk BK541) hb; have _ := bb (bk BK542) hb; have _ := bb (o := .cells #[.slice Ao52 t555.length co52] 65 (0, 0)) (bp BK558) hb; have _ := bs hb; clear HO547 HO551 HO554 HO557 BK541 BK542 BK558 HB; rename_i HO547 HO551 HO554 HO557 HO562 BK541 BK542 BK558 HB; (try clear hb); (try clear hb2); (try clear hk); (try clear hi); (try clear ho0)) | ((with_reducible refine gate_dst (N := 8) rfl ?_); refine be 8 #[.string (⟨#[]⟩ : ByteArray), .slice none 0 0] 40 ?_; intro gb563 hg w58 hbox hb; have _ := ra (Kd.S_below (by (with_reducible repeat (first | apply Kd.S_alloc | apply Kd.S_drewN | apply Kd.S_drew)); exact HO547.out) hb); have _ := ra (Kd.R_below (rq HO551) hb); have _ := ra (Kd.R_below (rq HO554) hb); have _ := ra (Kd.S_below (by (with_reducible repeat (first | apply Kd.S_alloc | apply Kd.S_drewN | apply Kd.S_drew)); exact HO557.out) hb); have _ := ra (Kd.R_below (rq HO562) hb); have _ := bb (bk BK541) hb; have _ := bb (bk BK542) hb; have _ := bb (bk BK558) hb; have _ := bs hb; have _ := ra (hbox); have _ := bz (w0 := w) hg; have _ := bz (w0 := w) hg; have _ := bn hg (bk BK541); have _ := bm hg (bk BK541); have _ := bn hg (bk BK542); have _ := bm hg (bk BK542); have _ := bn hg (bk BK558); have _ := bm hg (bk BK558); clear HO547 HO551 HO554 HO557 HO562 BK541 BK542 BK558 HB; rename_i HO547 HO551 HO554 HO557 HO562 BK541 BK542 BK558 HB BK563 GW563 GE563 NB541_563 NB563_541 NB542_563 NB563_542 NB558_563 NB563_558; clear hb hbox hg; have hnb59 := NB563_541.out; have hnc59 := NB541_563.out; have hnb60 := NB563_542.out; have hnc60 := NB542_563.out; have hnb61 := NB563_558.out; have hnc61 := NB558_563.out; obtain ⟨hcz62_0, hcz62_1, hfz62_0, hfz62_1⟩ := zc2 BK563; obtain ⟨Ao63, co63, eo63⟩ := Kd.R_slice HO562.out; subst eo63; obtain ⟨hcz64_0, hfz64_0⟩ := zc1 BK558) | ((with_reducible refine gate_callee (f := 44) rfl ?_); refine gl (some 35) Try.func44 #[.agg #[.slice Ao52 t555.length co52], .agg #[.string t559, .slice Ao63 t560.length co63]] ?_; (with_reducible refine (impl_ProbeAsk.calls k _ _ t555 t559 _ _ t560 t564 _ ?side1 ?side2 ?side3 ?side4 A24.out).mono ?_); (case side1 => refine (Kd.S_reads' (e := 105) (base := w.heap.size) (ok := fun k_ => (True ∧ some k_ ≠ (.slice Ao46 t545.length co46 : Value).ownBlock)) (n := t555.length) (c := co52) ?_).2.2; exact (by (with_reducible repeat (first | apply Kd.S_alloc | apply Kd.S_drewN | apply Kd.S_drew)); exact (Kd.S_mono (Kd.S_far (p := ⟨gb563, 1, none⟩) (Kd.S_far (p := ⟨gb563, 0, none⟩) (Kd.S_types HO557.out BK563.out (by decide)) (fun _ hk => hk.2) (.string t559)) (fun _ hk => hk.2) (.slice Ao63 t560.length co63)) (fun _ h_ => h_.1)))); (case side2 => exact (Kd.S_reads' HO557.out).2.1); (case side3 => refine (Kd.R_reads' (e := 95) (base := w.heap.size) (ok := fun k_ => (True ∧ some k_ ≠ (.slice Ao47 t549.length co47 : Value).ownBlock)) (n := t560.length) (c := co63) ?_).2.2; exact (Kd.R_mono (rf (Kd.R_types HO562.out BK563.out (by decide))) (fun _ h_ => h_.1))); (case side4 => exact (Kd.R_reads' HO562.out).2.1); rintro e w65 ⟨v565, rfl, ho0, hb⟩; refine ⟨_, rfl, ?_⟩; have _ := ra (Kd.S_below (by (with_reducible repeat (first | apply Kd.S_alloc | apply Kd.S_drewN | apply Kd.S_drew)); exact (Kd.S_mono (Kd.S_far (p := ⟨gb563, 1, none⟩) (Kd.S_far (p := ⟨gb563, 0, none⟩) (Kd.S_types HO547.out BK563.out (by decide)) (fun _ hk => hk.2) (.string t559)) (fun _ hk => hk.2) (.slice Ao63 t560.length co63)) (fun _ h_ => h_.1))) hb); have _ := ra (Kd.R_below (Kd.R_mono (rf (Kd.R_types HO551.out BK563.out (by decide))) (fun _ h_ => h_.1)) hb); have _ := ra (Kd.R_elder' (Kd.R_mono (rf (Kd.R_types HO554.out BK563.out (by decide))) (fun _ h_ => h_.1)) (Kd.R_base ho0) hb); have _ := ra (Kd.S_below (by (with_reducible repeat (first | apply Kd.S_alloc | apply Kd.S_drewN | apply Kd.S_drew)); exact (Kd.S_mono (Kd.S_far (p := ⟨gb563, 1, none⟩) (Kd.S_far (p := ⟨gb563, 0, none⟩) (Kd.S_types HO557.out BK563.out (by decide)) (fun _ hk => hk.2) (.string t559)) (fun _ hk => hk.2) (.slice Ao63 t560.length co63)) (fun _ h_ => h_.1))) hb); have _ := ra (Kd.R_below (Kd.R_mono (rf (Kd.R_types HO562.out BK563.out (by decide))) (fun _ h_ => h_.1)) hb); have _ := ra (Kd.R_lower (Kd.R_new' ho0 (Kd.R_lt (Kd.R_mono (rf (Kd.R_types HO554.out BK563.out (by decide))) (fun _ h_ => h_.1)))) (below_size bq)); have _ := bb (bk BK541) hb; have _ := bb (bk BK542) hb; have _ := bb (bk BK558) hb; have _ := bb (o := .cells #[.string t559, .slice Ao63 t560.length co63] 40 (0, 0)) (bp BK563) hb; have _ := bs hb; clear HO547 HO551 HO554 HO557 HO562 BK541 BK542 BK558 BK563 HB; rename_i HO547 HO551 HO554 HO557 HO562 HO566 BK541 BK542 BK558 BK563 HB; (try clear hb); (try clear hb2); (try clear hk); (try clear hi); (try clear ho0); obtain ⟨Ao66, co66, eo66⟩ := Kd.R_slice HO566.out; subst eo66; obtain ⟨Ao67, co67, eo67⟩ := Kd.R_slice HO554.out; subst eo67) | ((with_reducible refine gate_callee (f := 13) rfl ?_); refine gl (some 38) Try.func13 #[.slice Ao66 t564.length co66, .slice Ao67 t552.length co67] ?_; (with_reducible refine (laws_eqProbeClashS.calls k _ _ t564 _ _ t552 true _ ?side1 ?side2 ?side3 ?side4 A25.out).mono ?_); (case side1 => exact sr HO566); (case side2 => exact (Kd.R_reads' HO566.out).2.1); (case side3 => exact sr HO554); (case side4 => exact (Kd.R_reads' HO554.out).2.1); rintro e w68 ⟨rfl, hb⟩; refine ⟨_, rfl, ?_⟩; have _ := ra (Kd.S_below (by (with_reducible repeat (first | apply Kd.S_alloc | apply Kd.S_drewN | apply Kd.S_drew)); exact HO547.out) hb); have _ := ra (Kd.R_below (rq HO551) hb); have _ := ra (Kd.R_below (rq HO554) hb); have _ := ra (Kd.S_below (by (with_reducible repeat (first | apply Kd.S_alloc | apply Kd.S_drewN | apply Kd.S_drew)); exact HO557.out) hb); have _ := ra (Kd.R_below (rq HO562) hb); have _ := ra (Kd.R_below (rq HO566) hb); have _ := bb (bk BK541) hb; have _ := bb (bk BK542) hb; have _ := bb (bk BK558) hb; have _ := bb (bk BK563) hb; have _ := bs hb; clear HO547 HO551 HO554 HO557 HO562 HO566 BK541 BK542 BK558 BK563 HB; rename_i HO547 HO551 HO554 HO557 HO562 HO566 BK541 BK542 BK558 BK563 HB; (try clear hb); (try clear hb2); (try clear hk); (try clear hi)))
      have _ := ra (Kd.S_drew HO547.out)
      have _ := ra (Kd.R_drew HO551.out)
      have _ := ra (Kd.R_drew HO554.out)
      have _ := ra (Kd.S_drew HO557.out)
      have _ := ra (Kd.R_drew HO562.out)
      have _ := ra (Kd.R_drew HO566.out)
      have _ := ra (blk_drew BK541.out)
      have _ := ra (blk_drew BK542.out)
      have _ := ra (blk_drew BK558.out)
      have _ := ra (blk_drew BK563.out)
      have _ := ra (below_drew1 HB.out)
      clear HO547 HO551 HO554 HO557 HO562 HO566 BK541 BK542 BK558 BK563 HB
      rename_i HO547 HO551 HO554 HO557 HO562 HO566 BK541 BK542 BK558 BK563 HB
      refine start_ (n := 5) (S := fun w' => w'.cell? ⟨gb558, 0, none⟩ = some (.slice Ao52 t555.length co52) ∧ w'.cell? ⟨gb541, 0, none⟩ = some (.slice A0_0 l0_0.length c0_0)) (ds := []) (bl 5 0) (by kernel_rfl) rfl rfl ⟨(blk_cell BK558.out 0).trans rfl, (blk_cell BK541.out 0).trans rfl⟩ (fun hHeld => ?_)
      generalize w68.drew = w69 at HO547 HO551 HO554 HO557 HO562 HO566 BK541 BK542 BK558 BK563 HB hHeld ⊢
      refine tk 0 40 (bl 5 1) ?_ hHeld
      refine tk 1 41 (bl 5 3) ?_ hHeld
      refine oe 2 42 (bl 5 7) (fun K hK => ?_)
      refine gs Try.func43 #[.agg #[.slice A0_0 l0_0.length c0_0]] ?_
      with_reducible refine (laws_toProbeIndex.calls k _ _ l0_0 t568 _ ?side1 ?side2 A27.out).mono ?_
      (case side1 => exact sc HR0_0)
      (case side2 => exact HC0_0.out)
      rintro e w70 ⟨v569, rfl, ho0, hb⟩
      refine ⟨_, rfl, ?_⟩
      have _ := ra (Kd.S_elder' (by (with_reducible repeat (first | apply Kd.S_alloc | apply Kd.S_drewN | apply Kd.S_drew)); exact HO547.out) (Kd.S_base ho0) hb)
      have _ := ra (Kd.R_below (rq HO551) hb)
      have _ := ra (Kd.R_below (rq HO554) hb)
      have _ := ra (Kd.S_elder' (by (with_reducible repeat (first | apply Kd.S_alloc | apply Kd.S_drewN | apply Kd.S_drew)); exact HO557.out) (Kd.S_base ho0) hb)
      have _ := ra (Kd.R_below (rq HO562) hb)
      have _ := ra (Kd.R_below (rq HO566) hb)
      have _ := ra (Kd.S_lower (Kd.S_new' (Kd.S_new' ho0 (Kd.S_lt (by (with_reducible repeat (first | apply Kd.S_alloc | apply Kd.S_drewN | apply Kd.S_drew)); exact HO547.out))) (Kd.S_lt (by (with_reducible repeat (first | apply Kd.S_alloc | apply Kd.S_drewN | apply Kd.S_drew)); exact HO557.out))) (below_size bq))
      have _ := bb (bk BK541) hb
      have _ := bb (bk BK542) hb
      have _ := bb (bk BK558) hb
      have _ := bb (bk BK563) hb
      have _ := bs hb
      clear HO547 HO551 HO554 HO557 HO562 HO566 BK541 BK542 BK558 BK563 HB
      rename_i HO547 HO551 HO554 HO557 HO562 HO566 HO570 BK541 BK542 BK558 BK563 HB
      (try clear hb)
      (try clear hb2)
      (try clear hk)
      (try clear hi)
      (try clear ho0)
      obtain ⟨Ao71, co71, eo71⟩ := Kd.S_slice HO570.out
      (first | subst eo71 | (injection eo71 with f1_ f2_ f3_; have f4_ := f1_.symm; have f5_ := f3_.symm; clear f1_ f2_ f3_; subst f4_; subst f5_))
      refine hK.out _ _ ⟨(blk_cell BK558.out 0).trans rfl, (blk_cell BK541.out 0).trans rfl⟩ (fun hHeld => ?_)
      clear hK K
      refine nm 42 ?_
      refine oe 3 43 (bl 5 15) (fun K hK => ?_)
      refine gs Try.func38 #[.agg #[.slice Ao52 t555.length co52], .agg #[.slice Ao71 t568.length co71]] ?_
      with_reducible refine (laws_eqProbeIndex.calls k _ _ t555 _ _ t568 true _ ?side1 ?side2 ?side3 ?side4 A28.out).mono ?_
      (case side1 => repeat (first | exact (Kd.S_reads' HO557.out).2.2 | (with_reducible refine Kd.C_alloc ?_ _) | (with_reducible refine Kd.C_drewN ?_ _) | (with_reducible refine Kd.C_drew ?_)))
      (case side2 => exact (Kd.S_reads' HO557.out).2.1)
      (case side3 => repeat (first | exact (Kd.S_reads' HO570.out).2.2 | (with_reducible refine Kd.C_alloc ?_ _) | (with_reducible refine Kd.C_drewN ?_ _) | (with_reducible refine Kd.C_drew ?_)))
      (case side4 => exact (Kd.S_reads' HO570.out).2.1)
      rintro e w72 ⟨rfl, hb⟩
      refine ⟨_, rfl, ?_⟩
      have _ := ra (Kd.S_below (by (with_reducible repeat (first | apply Kd.S_alloc | apply Kd.S_drewN | apply Kd.S_drew)); exact HO547.out) hb)
      have _ := ra (Kd.R_below (rq HO551) hb)
      have _ := ra (Kd.R_below (rq HO554) hb)
      have _ := ra (Kd.S_below (by (with_reducible repeat (first | apply Kd.S_alloc | apply Kd.S_drewN | apply Kd.S_drew)); exact HO557.out) hb)
      have _ := ra (Kd.R_below (rq HO562) hb)
      have _ := ra (Kd.R_below (rq HO566) hb)
      have _ := ra (Kd.S_below (by (with_reducible repeat (first | apply Kd.S_alloc | apply Kd.S_drewN | apply Kd.S_drew)); exact HO570.out) hb)
      have _ := bb (bk BK541) hb
      have _ := bb (bk BK542) hb
      have _ := bb (bk BK558) hb
      have _ := bb (bk BK563) hb
      have _ := bs hb
      clear HO547 HO551 HO554 HO557 HO562 HO566 HO570 BK541 BK542 BK558 BK563 HB
      rename_i HO547 HO551 HO554 HO557 HO562 HO566 HO570 BK541 BK542 BK558 BK563 HB
      (try clear hb)
      (try clear hb2)
      (try clear hk)
      (try clear hi)
      refine hK.out _ _ ⟨(blk_cell BK558.out 0).trans rfl, (blk_cell BK541.out 0).trans rfl⟩ (fun hHeld => ?_)
      clear hK K
      refine nm 43 ?_
      refine pu 4 44 (bl 5 31) ?_
      refine done_ (by kernel_rfl) ?_
      try go_wp2
      have _ := ra (Kd.S_drew HO547.out)
      have _ := ra (Kd.R_drew HO551.out)
      have _ := ra (Kd.R_drew HO554.out)
      have _ := ra (Kd.S_drew HO557.out)
      have _ := ra (Kd.R_drew HO562.out)
      have _ := ra (Kd.R_drew HO566.out)
      have _ := ra (Kd.S_drew HO570.out)
      have _ := ra (blk_drew BK541.out)
      have _ := ra (blk_drew BK542.out)
      have _ := ra (blk_drew BK558.out)
      have _ := ra (blk_drew BK563.out)
      have _ := ra (below_drew1 HB.out)
      clear HO547 HO551 HO554 HO557 HO562 HO566 HO570 BK541 BK542 BK558 BK563 HB
      rename_i HO547 HO551 HO554 HO557 HO562 HO566 HO570 BK541 BK542 BK558 BK563 HB
      refine start_ (n := 5) (S := fun w' => w'.cell? ⟨gb563, 0, none⟩ = some (.string t559) ∧ w'.cell? ⟨gb563, 1, none⟩ = some (.slice Ao63 t560.length co63) ∧ w'.cell? ⟨gb542, 0, none⟩ = some (.string a1_0) ∧ w'.cell? ⟨gb542, 1, none⟩ = some (.slice A1_1 l1_1.length c1_1)) (ds := []) (bl 5 0) (by kernel_rfl) rfl rfl ⟨(blk_cell BK563.out 0).trans rfl, (blk_cell BK563.out 1).trans rfl, (blk_cell BK542.out 0).trans rfl, (blk_cell BK542.out 1).trans rfl⟩ (fun hHeld => ?_)
      generalize w72.drew = w73 at HO547 HO551 HO554 HO557 HO562 HO566 HO570 BK541 BK542 BK558 BK563 HB hHeld ⊢
      refine tk 0 45 (bl 5 1) ?_ hHeld
      refine tk 1 46 (bl 5 3) ?_ hHeld
      refine oe 2 47 (bl 5 7) (fun K hK => ?_)
      refine gs Try.func20 #[.agg #[.string a1_0, .slice A1_1 l1_1.length c1_1]] ?_
      with_reducible refine (laws_toProbeTube.calls k a1_0 _ _ l1_1 t572 t573 _ ?side1 ?side2 A30.out).mono ?_
      (case side1 => exact sc HR1_1)
      (case side2 => exact HC1_1.out)
      rintro e w74 ⟨v574, rfl, ho0, hb⟩
      refine ⟨_, rfl, ?_⟩
      have _ := ra (Kd.S_below (by (with_reducible repeat (first | apply Kd.S_alloc | apply Kd.S_drewN | apply Kd.S_drew)); exact HO547.out) hb)
      have _ := ra (Kd.R_elder' (rq HO551) (Kd.R_base ho0) hb)
      have _ := ra (Kd.R_below (rq HO554) hb)
      have _ := ra (Kd.S_below (by (with_reducible repeat (first | apply Kd.S_alloc | apply Kd.S_drewN | apply Kd.S_drew)); exact HO557.out) hb)
      have _ := ra (Kd.R_elder' (rq HO562) (Kd.R_base ho0) hb)
      have _ := ra (Kd.R_below (rq HO566) hb)
      have _ := ra (Kd.S_below (by (with_reducible repeat (first | apply Kd.S_alloc | apply Kd.S_drewN | apply Kd.S_drew)); exact HO570.out) hb)
      have _ := ra (Kd.R_lower (Kd.R_new' (Kd.R_new' ho0 (Kd.R_lt (rq HO551))) (Kd.R_lt (rq HO562))) (below_size bq))
      have _ := bb (bk BK541) hb
      have _ := bb (bk BK542) hb
      have _ := bb (bk BK558) hb
      have _ := bb (bk BK563) hb
      have _ := bs hb
      clear HO547 HO551 HO554 HO557 HO562 HO566 HO570 BK541 BK542 BK558 BK563 HB
      rename_i HO547 HO551 HO554 HO557 HO562 HO566 HO570 HO575 BK541 BK542 BK558 BK563 HB
      (try clear hb)
      (try clear hb2)
      (try clear hk)
      (try clear hi)
      (try clear ho0)
      obtain ⟨Ao75, co75, eo75⟩ := Kd.R_slice HO575.out
      (first | subst eo75 | (injection eo75 with f1_ f2_ f3_; have f4_ := f1_.symm; have f5_ := f3_.symm; clear f1_ f2_ f3_; subst f4_; subst f5_))
      refine hK.out _ _ ⟨(blk_cell BK563.out 0).trans rfl, (blk_cell BK563.out 1).trans rfl, (blk_cell BK542.out 0).trans rfl, (blk_cell BK542.out 1).trans rfl⟩ (fun hHeld => ?_)
      clear hK K
      refine nm 47 ?_
      refine oe 3 48 (bl 5 15) (fun K hK => ?_)
      refine gs Try.func22 #[.agg #[.string t559, .slice Ao63 t560.length co63], .agg #[.string t572, .slice Ao75 t573.length co75]] ?_
      with_reducible refine (laws_eqProbeTube.calls k t559 _ _ t560 t572 _ _ t573 true _ ?side1 ?side2 ?side3 ?side4 A31.out).mono ?_
      (case side1 => exact sr HO562)
      (case side2 => exact (Kd.R_reads' HO562.out).2.1)
      (case side3 => exact sr HO575)
      (case side4 => exact (Kd.R_reads' HO575.out).2.1)
      rintro e w76 ⟨rfl, hb⟩
      refine ⟨_, rfl, ?_⟩
      have _ := ra (Kd.S_below (by (with_reducible repeat (first | apply Kd.S_alloc | apply Kd.S_drewN | apply Kd.S_drew)); exact HO547.out) hb)
      have _ := ra (Kd.R_below (rq HO551) hb)
      have _ := ra (Kd.R_below (rq HO554) hb)
      have _ := ra (Kd.S_below (by (with_reducible repeat (first | apply Kd.S_alloc | apply Kd.S_drewN | apply Kd.S_drew)); exact HO557.out) hb)
      have _ := ra (Kd.R_below (rq HO562) hb)
      have _ := ra (Kd.R_below (rq HO566) hb)
      have _ := ra (Kd.S_below (by (with_reducible repeat (first | apply Kd.S_alloc | apply Kd.S_drewN | apply Kd.S_drew)); exact HO570.out) hb)
      have _ := ra (Kd.R_below (rq HO575) hb)
      have _ := bb (bk BK541) hb
      have _ := bb (bk BK542) hb
      have _ := bb (bk BK558) hb
      have _ := bb (bk BK563) hb
      have _ := bs hb
      clear HO547 HO551 HO554 HO557 HO562 HO566 HO570 HO575 BK541 BK542 BK558 BK563 HB
      rename_i HO547 HO551 HO554 HO557 HO562 HO566 HO570 HO575 BK541 BK542 BK558 BK563 HB
      (try clear hb)
      (try clear hb2)
      (try clear hk)
      (try clear hi)
      refine hK.out _ _ ⟨(blk_cell BK563.out 0).trans rfl, (blk_cell BK563.out 1).trans rfl, (blk_cell BK542.out 0).trans rfl, (blk_cell BK542.out 1).trans rfl⟩ (fun hHeld => ?_)
      clear hK K
      refine nm 48 ?_
      refine pu 4 49 (bl 5 31) ?_
      refine done_ (by kernel_rfl) ?_
      obtain ⟨hcz77_0, hfz77_0⟩ := zc1 BK558
      go_upto_region 21 with (first | ((with_reducible refine gate_callee (f := 39) rfl ?_); refine gl (some 52) Try.func39 #[.agg #[.slice Ao52 t555.length co52], .int .i64 1] ?_; (with_reducible refine (laws_markProbeIndex.calls k _ (.slice Ao52 t555.length co52) t555 1 t577 w _ ?side1 (Z.S_typ HO557.out) A33.out).mono ?_); (case side1 => repeat (first | (with_reducible first | exact HB.out | apply below_alloc | apply pw_below_drewN | apply below_drew1 | refine below_set ?_ GE541.out | refine below_set ?_ GE542.out | refine below_set ?_ GE558.out | refine below_set ?_ GE563.out) | exact HB.out)); rintro e w78 ⟨rfl, hb, hkp⟩; refine ⟨_, rfl, ?_⟩; have _ := ra (Z.blk_keptT (bk BK541) hkp (by decide)); have _ := ra (Z.blk_keptT (bk BK542) hkp (by decide)); have _ := ra (Z.R_keptT (HO551.out) hkp (by decide)); have _ := ra (Z.R_keptT (HO554.out) hkp (by decide)); have _ := ra (Z.blk_keptT (bk BK558) hkp (by decide)); have _ := ra (Z.R_keptT (HO562.out) hkp (by decide)); have _ := ra (Z.blk_keptT (bk BK563) hkp (by decide)); have _ := ra (Z.R_keptT (HO566.out) hkp (by decide)); have _ := ra (Z.R_keptT (HO575.out) hkp (by decide)); have _ := ra (hb); clear BK541 BK542 HO551 HO554 BK558 HO562 BK563 HO566 HO575 HB HO547 HO557 HO570; rename_i BK541 BK542 HO551 HO554 BK558 HO562 BK563 HO566 HO575 HB; (try clear hb); (try clear hkp); obtain ⟨hcz79_0, hcz79_1, hfz79_0, hfz79_1⟩ := zc2 BK563) | ((with_reducible refine gate_callee (f := 23) rfl ?_); refine gl (some 55) Try.func23 #[.agg #[.string t559, .slice Ao63 t560.length co63], .int .i64 t577] ?_; (with_reducible refine (laws_markProbeTube.calls k t559 (fun k_ => some k_ = (.slice Ao63 t560.length co63 : Value).ownBlock) (.slice Ao63 t560.length co63) t560 t577 t578 t579 w _ ?side1 ?side2 A34.out).mono ?_); (case side1 => repeat (first | (with_reducible first | exact HB.out | apply below_alloc | apply pw_below_drewN | apply below_drew1 | refine below_set ?_ GE541.out | refine below_set ?_ GE542.out | refine below_set ?_ GE558.out | refine below_set ?_ GE563.out) | exact HB.out)); (case side2 => exact Kd.R_tight rfl HO562.out); rintro e w80 ⟨rfl, hy0, hb, hkp⟩; refine ⟨_, rfl, ?_⟩; have _ := ra (blk_kept (bk BK541) hkp (fun hs_ => (fun e_ => (Kd.R_ne HO562.out BK541.out (by decide)) e_) hs_)); have _ := ra (blk_kept (bk BK542) hkp (fun hs_ => (fun e_ => (Kd.R_ne HO562.out BK542.out (by decide)) e_) hs_)); have _ := ra (Kd.R_mono (ok' := fun k_ => some k_ ≠ (.slice Ao63 t560.length co63 : Value).ownBlock ∧ some k_ ≠ (.slice Ao75 t573.length co75 : Value).ownBlock) (Kd.R_keptB (HO551.out) hkp (fun k_ hk_ hs_ => (hk_.1.2) hs_)) (fun k_ hk_ => ⟨hk_.1.1.2, hk_.1.2⟩)); have _ := ra (Kd.R_mono (ok' := fun k_ => some k_ ≠ (.slice Ao66 t564.length co66 : Value).ownBlock) (Kd.R_keptB ((Kd.R_apart' HO554.out (Kd.R_typed HO562.out) (by decide))) hkp (fun k_ hk_ hs_ => (hk_.2) hs_)) (fun k_ hk_ => hk_.1.1.2)); have _ := ra (blk_kept (bk BK558) hkp (fun hs_ => (fun e_ => (Kd.R_ne HO562.out BK558.out (by decide)) e_) hs_)); have _ := ra (Kd.R_reok rfl hy0 (fun k_ e_ => HO562.out.1 k_ e_)); have _ := ra (blk_kept (bk BK563) hkp (fun hs_ => (fun e_ => (Kd.R_ne HO562.out BK563.out (by decide)) e_) hs_)); have _ := ra (Kd.R_mono (ok' := fun k_ => some k_ ≠ (.slice Ao67 t552.length co67 : Value).ownBlock) (Kd.R_keptB ((Kd.R_apart' HO566.out (Kd.R_typed HO562.out) (by decide))) hkp (fun k_ hk_ hs_ => (hk_.2) hs_)) (fun k_ hk_ => hk_.1.1.2)); have _ := ra (Kd.R_mono (ok' := fun k_ => some k_ ≠ (.slice Ao47 t549.length co47 : Value).ownBlock ∧ some k_ ≠ (.slice Ao63 t560.length co63 : Value).ownBlock) (Kd.R_keptB (HO575.out) hkp (fun k_ hk_ hs_ => (hk_.2) hs_)) (fun k_ hk_ => ⟨hk_.1.1.2, hk_.1.2⟩)); have _ := ra (hb); clear BK541 BK542 HO551 HO554 BK558 HO562 BK563 HO566 HO575 HB; rename_i BK541 BK542 HO551 HO554 BK558 HO562 BK563 HO566 HO575 HB; (try clear hb); (try clear hkp); (try clear hy0)))
      (try simp only [Act.put, List.setIfInBounds_toArray, List.set_cons_zero, List.set_cons_succ])
      go_cut [63] (fun v63 wc => ∃ (kq : Nat) (x63_34 : Bool), v63 = .bool x63_34 ∧ Aside0 (laws_FnExactProbeAsk.j0 kq t552 t564 x63_34 l0_0 a1_0 l1_1 = some true) ∧ Aside0 (kq ≤ k) ∧ Aside0 (Kd.R k49 49 wc w.heap.size (fun k_ => some k_ ≠ ((.slice Ao66 t564.length co66) : Value).ownBlock) (.slice Ao67 t552.length co67) t552) ∧ Aside0 (Kd.R k49 49 wc w.heap.size (fun k_ => some k_ ≠ ((.slice Ao67 t552.length co67) : Value).ownBlock) (.slice Ao66 t564.length co66) t564) ∧ Aside0 (Kd.R k95 95 wc w.heap.size (fun _ => True) (.slice Ao63 t560.length co63) t579) ∧ Aside0 (wc.heap[gb541]? = some (.cells #[(.slice A0_0 l0_0.length c0_0)] 71 (0, 0))) ∧ Aside0 (wc.heap[gb542]? = some (.cells #[.string a1_0, (.slice A1_1 l1_1.length c1_1)] 35 (0, 0))) ∧ Aside0 (wc.heap[gb563]? = some (.cells #[.string t559, (.slice Ao63 t560.length co63)] 40 (0, 0))) ∧ Aside0 (Below w.heap.size w wc))
      case first =>
       have H := HC35.out
       clear HC35
       by_cases c81 : t578 < 0
       ·rw [if_pos c81] at H
        have c81b0 : decide (t578 < 0) = true := decide_eq_true c81
        clear c81
        (first | rw [c81b0] | (simp only [i64_w, i32_w]; rw [c81b0]) | skip)
        have H' := Aside0.mk H
        clear H
        go_wp2
        go_meet
        case rel => exact ⟨_, (true), rs, H', ⟨by first | omega | exact Nat.le_refl _⟩, ⟨rq HO554⟩, ⟨rq HO566⟩, ⟨by (with_reducible repeat (first | apply Kd.R_alloc | apply Kd.R_drewN | apply Kd.R_drew)); exact Kd.R_mono HO562.out (fun _ hk => trivial)⟩, ⟨bk BK541⟩, ⟨bk BK542⟩, ⟨bk BK563⟩, ⟨bq⟩⟩
       ·rw [if_neg c81] at H
        have c81b0 : decide (t578 < 0) = false := decide_eq_false c81
        clear c81
        (first | rw [c81b0] | (simp only [i64_w, i32_w]; rw [c81b0]) | skip)
        obtain ⟨t580, A82, H⟩ := bo H
        have H' := Aside0.mk H
        clear H
        go_wp2_with (first | (go_at_call 13; (with_reducible refine (laws_eqProbeClashS.calls k _ _ t564 _ _ t552 t580 _ ?side1 ?side2 ?side3 ?side4 A82.out).mono ?_); (case side1 => exact sr HO566); (case side2 => exact (Kd.R_reads' HO566.out).2.1); (case side3 => exact sr HO554); (case side4 => exact (Kd.R_reads' HO554.out).2.1); rintro e w83 ⟨rfl, hb⟩; have _ := ra (Kd.R_below (rq HO551) hb); have _ := ra (Kd.R_below (rq HO554) hb); have _ := ra (Kd.R_below (rq HO562) hb); have _ := ra (Kd.R_below (rq HO566) hb); have _ := ra (Kd.R_below (rq HO575) hb); have _ := bb (bk BK541) hb; have _ := bb (bk BK542) hb; have _ := bb (bk BK558) hb; have _ := bb (bk BK563) hb; have _ := bs hb; clear HO551 HO554 HO562 HO566 HO575 BK541 BK542 BK558 BK563 HB; rename_i HO551 HO554 HO562 HO566 HO575 BK541 BK542 BK558 BK563 HB; (try clear hb); (try clear hb2); (try clear hk); (try clear hi)))
        go_meet
        case rel => exact ⟨_, (!t580), rs, H', ⟨by first | omega | exact Nat.le_refl _⟩, ⟨rq HO554⟩, ⟨rq HO566⟩, ⟨by (with_reducible repeat (first | apply Kd.R_alloc | apply Kd.R_drewN | apply Kd.R_drew)); exact Kd.R_mono HO562.out (fun _ hk => trivial)⟩, ⟨bk BK541⟩, ⟨bk BK542⟩, ⟨bk BK563⟩, ⟨bq⟩⟩
      case rest =>
       clear HC35
       try clear c4
       try clear c26
       try clear c29
       try clear c32
       try clear c81
       try clear c81b0
       try clear hcz39_0
       try clear hcz41_0
       try clear hcz41_1
       try clear hcz49_0
       try clear hcz55_0
       try clear hcz56_0
       try clear hcz56_1
       try clear hcz62_0
       try clear hcz62_1
       try clear hcz64_0
       try clear hcz77_0
       try clear hcz79_0
       try clear hcz79_1
       try clear hfz39_0
       try clear hfz41_0
       try clear hfz41_1
       try clear hfz49_0
       try clear hfz55_0
       try clear hfz56_0
       try clear hfz56_1
       try clear hfz62_0
       try clear hfz62_1
       try clear hfz64_0
       try clear hfz77_0
       try clear hfz79_0
       try clear hfz79_1
       obtain ⟨kq, x63_34, rfl, HA, HJ34, HO_6, HO_9, HO_564001, BK541, BK542, BK563, HB⟩ := hcut
       have hl564001_34 := (Kd.R_reads' HO_564001.out).1
       rw [hl564001_34] at HO_564001
       (try simp only [hl564001_34])
       (try simp only [hl564001_34] at BK541)
       (try simp only [hl564001_34] at BK542)
       (try simp only [hl564001_34] at BK563)
       (try simp only [hl564001_34] at HO_6)
       (try simp only [hl564001_34] at HO_9)
       cases kq with
       | zero => exact absurd HA.out (by simp [laws_FnExactProbeAsk.j0])
       | succ kj34 =>
        have H := HA.out
        clear HA
        simp only [laws_FnExactProbeAsk.j0] at H
        by_cases c84 : x63_34 = true
        ·subst c84
         have H1 : (some false) = some true := by rw [if_pos rfl] at H; exact H
         clear H
         have H := H1
         exact absurd (Option.some.inj H) (by decide)
        ·replace c84 := Bool.eq_false_iff.mpr c84
         subst c84
         have H1 : ((laws_markProbeClashS.f kj34 t564 1).bind fun bt581 => ((laws_heldProbeClashS.f kj34 bt581.2 1).bind fun t583 => (if t583 < 0 then (some false) else (if t583 = bt581.1 then ((laws_toProbeIndex.f kj34 l0_0).bind fun t584 => ((laws_toProbeTube.f kj34 a1_0 l1_1).bind fun bt587 => ((impl_ProbeAsk.f kj34 t584 bt587.1 bt587.2).bind fun t591 => ((laws_eqProbeClashS.f kj34 t591 t552).bind fun t594 => (if t594 = true then ((laws_heldProbeClashS.f kj34 bt581.2 1).bind fun t595 => (if t595 < 0 then (some false) else (if t595 = bt581.1 then (some true) else (some false)))) else (some false)))))) else (some false))))) = some true := by rw [if_neg (show ¬ (false = true) by decide)] at H; exact H
         clear H
         have H := H1
         clear H1
         obtain ⟨⟨t581, t582⟩, A85, H⟩ := bo H
         try dsimp only at H
         obtain ⟨t583, A86, H⟩ := bo H
         by_cases c87 : t583 < 0
         ·rw [if_pos c87] at H
          exact absurd (Option.some.inj H) (by decide)
         ·rw [if_neg c87] at H
          have c87b0 : decide (t583 < 0) = false := decide_eq_false c87
          clear c87
          by_cases c90 : t583 = t581
          ·rw [if_pos c90] at H
           have c90b0 : (t583 == t581) = true := beq_iff_eq.mpr c90
           have c90b1 : (t583 != t581) = false := bne_eq_false_iff_eq.mpr c90
           clear c90
           obtain ⟨t584, A91, H⟩ := bo H
           obtain ⟨⟨t587, t588⟩, A92, H⟩ := bo H
           try dsimp only at H
           obtain ⟨t591, A93, H⟩ := bo H
           obtain ⟨t594, A94, H⟩ := bo H
           by_cases c95 : t594 = true
           ·subst c95
            replace H := it H rfl
            obtain ⟨t595, A96, H⟩ := bo H
            by_cases c97 : t595 < 0
            ·rw [if_pos c97] at H
             exact absurd (Option.some.inj H) (by decide)
            ·rw [if_neg c97] at H
             have c97b0 : decide (t595 < 0) = false := decide_eq_false c97
             clear c97
             by_cases c109 : t595 = t581
             ·rw [if_pos c109] at H
              have c109b0 : (t595 == t581) = true := beq_iff_eq.mpr c109
              have c109b1 : (t595 != t581) = false := bne_eq_false_iff_eq.mpr c109
              clear c109 H
              try go_wp2_with (first | ((with_reducible refine gate_callee (f := 16) rfl ?_); refine gl (some 66) Try.func16 #[.slice Ao66 t564.length co66, .int .i64 1] ?_; (with_reducible refine (laws_markProbeClashS.calls kj34 (fun k_ => some k_ = (.slice Ao66 t564.length co66 : Value).ownBlock) (.slice Ao66 t564.length co66) t564 1 t581 t582 w _ ?side1 ?side2 A85.out).mono ?_); (case side1 => repeat (first | (with_reducible first | exact HB.out | apply below_alloc | apply pw_below_drewN | apply below_drew1 | refine below_set ?_ GE541.out | refine below_set ?_ GE542.out | refine below_set ?_ GE563.out) | exact HB.out)); (case side2 => exact Kd.R_tight rfl HO_9.out); rintro e w110 ⟨rfl, hy0, hb, hkp⟩; refine ⟨_, rfl, ?_⟩; have _ := ra (Kd.R_mono (ok' := fun k_ => some k_ ≠ (.slice Ao66 t564.length co66 : Value).ownBlock) (Kd.R_keptB (HO_6.out) hkp (fun k_ hk_ hs_ => (hk_) hs_)) (fun k_ hk_ => hk_.1)); have _ := ra (Kd.R_reok rfl hy0 (fun k_ e_ => HO_9.out.1 k_ e_)); have _ := ra (Kd.R_mono (ok' := fun k_ => True) (Kd.R_keptB ((Kd.R_apart' HO_564001.out (Kd.R_typed HO_9.out) (by decide))) hkp (fun k_ hk_ hs_ => (hk_.2) hs_)) (fun k_ hk_ => trivial)); have _ := ra (blk_kept (bk BK541) hkp (fun hs_ => (fun e_ => (Kd.R_ne HO_9.out BK541.out (by decide)) e_) hs_)); have _ := ra (blk_kept (bk BK542) hkp (fun hs_ => (fun e_ => (Kd.R_ne HO_9.out BK542.out (by decide)) e_) hs_)); have _ := ra (blk_kept (bk BK563) hkp (fun hs_ => (fun e_ => (Kd.R_ne HO_9.out BK563.out (by decide)) e_) hs_)); have _ := ra (hb); clear HO_6 HO_9 HO_564001 BK541 BK542 BK563 HB; rename_i HO_6 HO_9 HO_564001 BK541 BK542 BK563 HB; (try clear hb); (try clear hkp); (try clear hy0)) | ((with_reducible refine gate_callee (f := 17) rfl ?_); refine goesL_ (some 69) rfl rfl Try.func17 (by kernel_rfl) rfl #[.slice Ao66 t582.length co66, .int .i64 1] rfl (by (try simp only [List.map_toArray, List.map_cons, List.map_nil]); first | done | (rw [show t582.length = t564.length from (Kd.R_reads' HO_9.out).1.symm] <;> rfl) | rfl | (simp only [List.length_drop, List.length_take]; rfl)) ?_; (with_reducible refine (laws_heldProbeClashS.calls kj34 _ _ t582 1 t583 _ ?side1 ?side2 A86.out).mono ?_); (case side1 => exact sr HO_9); (case side2 => rw [show t582.length = t564.length from (Kd.R_reads' HO_9.out).1.symm]; exact (Kd.R_reads' HO_9.out).2.1); rintro e w111 ⟨rfl, hb⟩; refine ⟨_, rfl, ?_⟩; have _ := ra (Kd.R_below (rq HO_6) hb); have _ := ra (Kd.R_below (rq HO_9) hb); have _ := ra (Kd.R_below (rq HO_564001) hb); have _ := bb (bk BK541) hb; have _ := bb (bk BK542) hb; have _ := bb (bk BK563) hb; have _ := bs hb; clear HO_6 HO_9 HO_564001 BK541 BK542 BK563 HB; rename_i HO_6 HO_9 HO_564001 BK541 BK542 BK563 HB; (try clear hb); (try clear hb2); (try clear hk); (try clear hi)))
              have _ := ra (Kd.R_drew HO_6.out)
              have _ := ra (Kd.R_drew HO_9.out)
              have _ := ra (Kd.R_drew HO_564001.out)
              have _ := ra (blk_drew BK541.out)
              have _ := ra (blk_drew BK542.out)
              have _ := ra (blk_drew BK563.out)
              have _ := ra (below_drew1 HB.out)
              clear HO_6 HO_9 HO_564001 BK541 BK542 BK563 HB
              rename_i HO_6 HO_9 HO_564001 BK541 BK542 BK563 HB
              refine start_ (n := 6) (S := fun w' => w'.cell? ⟨gb541, 0, none⟩ = some (.slice A0_0 l0_0.length c0_0) ∧ w'.cell? ⟨gb542, 0, none⟩ = some (.string a1_0) ∧ w'.cell? ⟨gb542, 1, none⟩ = some (.slice A1_1 l1_1.length c1_1)) (ds := []) (bl 6 0) (by kernel_rfl) rfl rfl ⟨(blk_cell BK541.out 0).trans rfl, (blk_cell BK542.out 0).trans rfl, (blk_cell BK542.out 1).trans rfl⟩ (fun hHeld => ?_)
              generalize w111.drew = w112 at HO_6 HO_9 HO_564001 BK541 BK542 BK563 HB hHeld ⊢
              refine tk 0 75 (bl 6 1) ?_ hHeld
              refine tk 2 77 (bl 6 5) ?_ hHeld
              refine oe 1 76 (bl 6 7) (fun K hK => ?_)
              refine gs Try.func43 #[.agg #[.slice A0_0 l0_0.length c0_0]] ?_
              with_reducible refine (laws_toProbeIndex.calls kj34 _ _ l0_0 t584 _ ?side1 ?side2 A91.out).mono ?_
              (case side1 => exact sc HR0_0)
              (case side2 => exact HC0_0.out)
              rintro e w113 ⟨v585, rfl, ho0, hb⟩
              refine ⟨_, rfl, ?_⟩
              have _ := ra (Kd.R_below (rq HO_6) hb)
              have _ := ra (Kd.R_below (rq HO_9) hb)
              have _ := ra (Kd.R_below (rq HO_564001) hb)
              have _ := ra (Kd.S_lower ho0 (below_size bq))
              have _ := bb (bk BK541) hb
              have _ := bb (bk BK542) hb
              have _ := bb (bk BK563) hb
              have _ := bs hb
              clear HO_6 HO_9 HO_564001 BK541 BK542 BK563 HB
              rename_i HO_6 HO_9 HO_564001 HO586 BK541 BK542 BK563 HB
              (try clear hb)
              (try clear hb2)
              (try clear hk)
              (try clear hi)
              (try clear ho0)
              refine hK.out _ _ ⟨(blk_cell BK541.out 0).trans rfl, (blk_cell BK542.out 0).trans rfl, (blk_cell BK542.out 1).trans rfl⟩ (fun hHeld => ?_)
              clear hK K
              refine nm 76 ?_
              refine oe 3 78 (bl 6 15) (fun K hK => ?_)
              refine gs Try.func20 #[.agg #[.string a1_0, .slice A1_1 l1_1.length c1_1]] ?_
              with_reducible refine (laws_toProbeTube.calls kj34 a1_0 _ _ l1_1 t587 t588 _ ?side1 ?side2 A92.out).mono ?_
              (case side1 => exact sc HR1_1)
              (case side2 => exact HC1_1.out)
              rintro e w114 ⟨v589, rfl, ho0, hb⟩
              refine ⟨_, rfl, ?_⟩
              have _ := ra (Kd.R_below (rq HO_6) hb)
              have _ := ra (Kd.R_below (rq HO_9) hb)
              have _ := ra (Kd.R_elder' (rq HO_564001) (Kd.R_base ho0) hb)
              have _ := ra (Kd.S_below (by (with_reducible repeat (first | apply Kd.S_alloc | apply Kd.S_drewN | apply Kd.S_drew)); exact HO586.out) hb)
              have _ := ra (Kd.R_lower (Kd.R_new' ho0 (Kd.R_lt (rq HO_564001))) (below_size bq))
              have _ := bb (bk BK541) hb
              have _ := bb (bk BK542) hb
              have _ := bb (bk BK563) hb
              have _ := bs hb
              clear HO_6 HO_9 HO_564001 HO586 BK541 BK542 BK563 HB
              rename_i HO_6 HO_9 HO_564001 HO586 HO590 BK541 BK542 BK563 HB
              (try clear hb)
              (try clear hb2)
              (try clear hk)
              (try clear hi)
              (try clear ho0)
              obtain ⟨Ao115, co115, eo115⟩ := Kd.S_slice HO586.out
              (first | subst eo115 | (injection eo115 with f1_ f2_ f3_; have f4_ := f1_.symm; have f5_ := f3_.symm; clear f1_ f2_ f3_; subst f4_; subst f5_))
              obtain ⟨Ao116, co116, eo116⟩ := Kd.R_slice HO590.out
              (first | subst eo116 | (injection eo116 with f1_ f2_ f3_; have f4_ := f1_.symm; have f5_ := f3_.symm; clear f1_ f2_ f3_; subst f4_; subst f5_))
              refine hK.out _ _ ⟨(blk_cell BK541.out 0).trans rfl, (blk_cell BK542.out 0).trans rfl, (blk_cell BK542.out 1).trans rfl⟩ (fun hHeld => ?_)
              clear hK K
              refine nm 78 ?_
              refine oe 4 79 (bl 6 31) (fun K hK => ?_)
              refine gs Try.func44 #[.agg #[.slice Ao115 t584.length co115], .agg #[.string t587, .slice Ao116 t588.length co116]] ?_
              with_reducible refine (impl_ProbeAsk.calls kj34 _ _ t584 t587 _ _ t588 t591 _ ?side1 ?side2 ?side3 ?side4 A93.out).mono ?_
              (case side1 => repeat (first | exact (Kd.S_reads' HO586.out).2.2 | (with_reducible refine Kd.C_alloc ?_ _) | (with_reducible refine Kd.C_drewN ?_ _) | (with_reducible refine Kd.C_drew ?_)))
              (case side2 => exact (Kd.S_reads' HO586.out).2.1)
              (case side3 => exact sr HO590)
              (case side4 => exact (Kd.R_reads' HO590.out).2.1)
              rintro e w117 ⟨v592, rfl, ho0, hb⟩
              refine ⟨_, rfl, ?_⟩
              have _ := ra (Kd.R_elder' (rq HO_6) (Kd.R_base ho0) hb)
              have _ := ra (Kd.R_elder' (rq HO_9) (Kd.R_base ho0) hb)
              have _ := ra (Kd.R_below (rq HO_564001) hb)
              have _ := ra (Kd.S_below (by (with_reducible repeat (first | apply Kd.S_alloc | apply Kd.S_drewN | apply Kd.S_drew)); exact HO586.out) hb)
              have _ := ra (Kd.R_below (rq HO590) hb)
              have _ := ra (Kd.R_lower (Kd.R_new' (Kd.R_new' ho0 (Kd.R_lt (rq HO_6))) (Kd.R_lt (rq HO_9))) (below_size bq))
              have _ := bb (bk BK541) hb
              have _ := bb (bk BK542) hb
              have _ := bb (bk BK563) hb
              have _ := bs hb
              clear HO_6 HO_9 HO_564001 HO586 HO590 BK541 BK542 BK563 HB
              rename_i HO_6 HO_9 HO_564001 HO586 HO590 HO593 BK541 BK542 BK563 HB
              (try clear hb)
              (try clear hb2)
              (try clear hk)
              (try clear hi)
              (try clear ho0)
              refine hK.out _ _ ⟨(blk_cell BK541.out 0).trans rfl, (blk_cell BK542.out 0).trans rfl, (blk_cell BK542.out 1).trans rfl⟩ (fun hHeld => ?_)
              clear hK K
              refine nm 79 ?_
              refine pu 5 13 (bl 6 63) ?_
              refine done_ (by kernel_rfl) ?_
              obtain ⟨Ao118, co118, eo118⟩ := Kd.R_slice HO593.out
              subst eo118
              try go_wp2_with (first | ((with_reducible refine gate_callee (f := 13) rfl ?_); refine gl (some 82) Try.func13 #[.slice Ao118 t591.length co118, .slice Ao67 t552.length co67] ?_; (with_reducible refine (laws_eqProbeClashS.calls kj34 _ _ t591 _ _ t552 true _ ?side1 ?side2 ?side3 ?side4 A94.out).mono ?_); (case side1 => exact sr HO593); (case side2 => exact (Kd.R_reads' HO593.out).2.1); (case side3 => exact sr HO_6); (case side4 => exact (Kd.R_reads' HO_6.out).2.1); rintro e w119 ⟨rfl, hb⟩; refine ⟨_, rfl, ?_⟩; have _ := ra (Kd.R_below (rq HO_6) hb); have _ := ra (Kd.R_below (rq HO_9) hb); have _ := ra (Kd.R_below (rq HO_564001) hb); have _ := ra (Kd.S_below (by (with_reducible repeat (first | apply Kd.S_alloc | apply Kd.S_drewN | apply Kd.S_drew)); exact HO586.out) hb); have _ := ra (Kd.R_below (rq HO590) hb); have _ := ra (Kd.R_below (rq HO593) hb); have _ := bb (bk BK541) hb; have _ := bb (bk BK542) hb; have _ := bb (bk BK563) hb; have _ := bs hb; clear HO_6 HO_9 HO_564001 HO586 HO590 HO593 BK541 BK542 BK563 HB; rename_i HO_6 HO_9 HO_564001 HO586 HO590 HO593 BK541 BK542 BK563 HB; (try clear hb); (try clear hb2); (try clear hk); (try clear hi)) | ((with_reducible refine gate_callee (f := 17) rfl ?_); refine goesL_ (some 86) rfl rfl Try.func17 (by kernel_rfl) rfl #[.slice Ao66 t582.length co66, .int .i64 1] rfl (by (try simp only [List.map_toArray, List.map_cons, List.map_nil]); first | done | (rw [show t582.length = t564.length from (Kd.R_reads' HO_9.out).1.symm] <;> rfl) | rfl | (simp only [List.length_drop, List.length_take]; rfl)) ?_; (with_reducible refine (laws_heldProbeClashS.calls kj34 _ _ t582 1 t595 _ ?side1 ?side2 A96.out).mono ?_); (case side1 => exact sr HO_9); (case side2 => rw [show t582.length = t564.length from (Kd.R_reads' HO_9.out).1.symm]; exact (Kd.R_reads' HO_9.out).2.1); rintro e w120 ⟨rfl, hb⟩; refine ⟨_, rfl, ?_⟩; have _ := ra (Kd.R_below (rq HO_6) hb); have _ := ra (Kd.R_below (rq HO_9) hb); have _ := ra (Kd.R_below (rq HO_564001) hb); have _ := ra (Kd.S_below (by (with_reducible repeat (first | apply Kd.S_alloc | apply Kd.S_drewN | apply Kd.S_drew)); exact HO586.out) hb); have _ := ra (Kd.R_below (rq HO590) hb); have _ := ra (Kd.R_below (rq HO593) hb); have _ := bb (bk BK541) hb; have _ := bb (bk BK542) hb; have _ := bb (bk BK563) hb; have _ := bs hb; clear HO_6 HO_9 HO_564001 HO586 HO590 HO593 BK541 BK542 BK563 HB; rename_i HO_6 HO_9 HO_564001 HO586 HO590 HO593 BK541 BK542 BK563 HB; (try clear hb); (try clear hb2); (try clear hk); (try clear hi)))
              go_ret
              exact ⟨re, bq⟩
             ·rw [if_neg c109] at H
              exact absurd (Option.some.inj H) (by decide)
           ·replace c95 := Bool.eq_false_iff.mpr c95
            subst c95
            have H1 : (some false) = some true := by rw [if_neg (show ¬ (false = true) by decide)] at H; exact H
            clear H
            have H := H1
            exact absurd (Option.some.inj H) (by decide)
          ·rw [if_neg c90] at H
           exact absurd (Option.some.inj H) (by decide)
     ·replace c32 := Bool.eq_false_iff.mpr c32
      subst c32
      have H1 : (some false) = some true := by rw [if_neg (show ¬ (false = true) by decide)] at H; exact H
      clear H
      have H := H1
      exact absurd (Option.some.inj H) (by decide)
    ·replace c29 := Bool.eq_false_iff.mpr c29
     subst c29
     have H1 : (some false) = some true := by rw [if_neg (show ¬ (false = true) by decide)] at H; exact H
     clear H
     have H := H1
     exact absurd (Option.some.inj H) (by decide)
   ·replace c26 := Bool.eq_false_iff.mpr c26
    subst c26
    have H1 : (some false) = some true := by rw [if_neg (show ¬ (false = true) by decide)] at H; exact H
    clear H
    have H := H1
    exact absurd (Option.some.inj H) (by decide)
end Go.Proofs.Ytdbomnhdpniigaa.PA
