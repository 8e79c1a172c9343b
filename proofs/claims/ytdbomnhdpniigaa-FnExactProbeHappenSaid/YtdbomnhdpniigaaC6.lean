/- Contracts of the functions laws_FnExactProbeHappen. (Began as a print of the kit's tool.) -/
import Derived.Test.YtdbomnhdpniigaaPAd
import Derived.Test.YtdbomnhdpniigaaCx
import Derived.Test.YtdbomnhdpniigaaCm
import Derived.Test.YtdbomnhdpniigaaCy
import Derived.Test.YtdbomnhdpniigaaGConvs
import Derived.Test.YtdbomnhdpniigaaGHapL
import Derived.Test.YtdbomnhdpniigaaGConvs
import Derived.Test.YtdbomnhdpniigaaGHapL
import Derived.Test.YtdbomnhdpniigaaGHapS
import Derived.Test.YtdbomnhdpniigaaGHappen
import Derived.Test.YtdbomnhdpniigaaGConvs
import Derived.Test.YtdbomnhdpniigaaGHapL
import Derived.Test.YtdbomnhdpniigaaGMarks
import Derived.Test.YtdbomnhdpniigaaGHapL
import Derived.Test.YtdbomnhdpniigaaGHapL
namespace Go.Proofs.Ytdbomnhdpniigaa.PA
open Go.RowKit Go.Proofs.YtdbomnhdpniigaaW.PrintWords Go.Proofs.YtdbomnhdpniigaaW.PrintLast Go.Proofs.YtdbomnhdpniigaaW.PrintMore Go.Proofs.Ytdbomnhdpniigaa.Z
attribute [local go_sem] max2_int min2_int max_two min_two max_three min_three max_four min_four
set_option linter.unusedVariables false
set_option linter.unusedSimpArgs false
def laws_FnExactProbeHappen.T8 : Bool × List (List Nat × List Nat) := (true, [([], []), ([0], [0]), ([], []), ([2, 1], [2]), ([1, 3, 3], [1, 3]), ([4], [4]), ([5], [5]), ([5], [5]), ([6, 4, 0, 1, 2, 3, 4, 5, 6], [6]), ([7, 8, 0, 1, 2, 3, 4, 5, 6, 7, 8], [7])])
def laws_FnExactProbeHappen.B8 : List Nat := [0, 1, 0, 7, 15, 31, 63, 63, 127, 511]
theorem laws_FnExactProbeHappen.tab8 : rtab .any (opsOf Try.f6 8) = laws_FnExactProbeHappen.T8 := by kernel_rfl
theorem laws_FnExactProbeHappen.bits8 : waitsOk laws_FnExactProbeHappen.T8.2 laws_FnExactProbeHappen.B8 = true := by kernel_rfl
def laws_FnExactProbeHappen.T31 : Bool × List (List Nat × List Nat) := (true, [([], []), ([0], [0]), ([], []), ([2, 1], [2]), ([1, 3, 3], [1, 3]), ([4], [4]), ([5], [5]), ([5], [5]), ([6, 4, 0, 1, 2, 3, 4, 5, 6], [6]), ([7, 8, 0, 1, 2, 3, 4, 5, 6, 7, 8], [7])])
def laws_FnExactProbeHappen.B31 : List Nat := [0, 1, 0, 7, 15, 31, 63, 63, 127, 511]
theorem laws_FnExactProbeHappen.tab31 : rtab .any (opsOf Try.f6 31) = laws_FnExactProbeHappen.T31 := by kernel_rfl
theorem laws_FnExactProbeHappen.bits31 : waitsOk laws_FnExactProbeHappen.T31.2 laws_FnExactProbeHappen.B31 = true := by kernel_rfl
set_option maxHeartbeats 8000000 in
set_option maxRecDepth 100000 in
theorem laws_FnExactProbeHappen.calls (k : Nat) (A0 : Option Addr) (c0 : Nat) (l0 : List (S35)) (a1_0 : Bool) (a1_1 : ByteArray) (A1_2 : Option Addr) (c1_2 : Nat) (l1_2 : List (S121)) (w : World) (hr0 : Kd.C k35 w A0 l0.length l0) (hc0 : l0.length ≤ c0) (hr1_2 : Kd.C k121 w A1_2 l1_2.length l1_2) (hc1_2 : l1_2.length ≤ c1_2) (h : laws_FnExactProbeHappen.f k l0 a1_0 a1_1 l1_2 = some true) :
  Calls Try.prog 6 #[.slice A0 l0.length c0, .agg #[.bool a1_0, .string a1_1, .slice A1_2 l1_2.length c1_2]] w fun e w' => e = .returned (.bool true) ∧ Below w.heap.size w w' := by
 have hu57 := Try.underlying57
 have hu54 := Try.underlying54
 have HR0 := Aside0.mk hr0
 have HC0 := Aside0.mk hc0
 clear hr0 hc0
 have HR1_2 := Aside0.mk hr1_2
 have HC1_2 := Aside0.mk hc1_2
 clear hr1_2 hc1_2
 have HB := ra (Below.refl w.heap.size w)
 have H : ((laws_szProbeTubeS.f k l0 1048576).bind fun t796 => (if t796 < 0 then (some true) else ((laws_szProbeEvent.f a1_0 a1_1 l1_2 t796).bind fun t797 => (if t797 < 0 then (some true) else ((laws_toProbeTubeS.f k l0).bind fun t798 => ((laws_toProbeEvent.f k a1_0 a1_1 l1_2).bind fun bt801 => ((spec_ProbeHappen.f k t798 bt801.1 bt801.2.1 bt801.2.2).bind fun bt806 => ((laws_toProbeTubeS.f k l0).bind fun t810 => ((laws_toProbeEvent.f k a1_0 a1_1 l1_2).bind fun bt813 => ((impl_ProbeHappen.f k t810 bt813.1 bt813.2.1 bt813.2.2).bind fun bt819 => ((laws_eqProbeTubeS.f k bt819.1 bt806.1).bind fun t823 => (if t823 = true then (laws_FnExactProbeHappen.j0 k l0 bt806.1 bt806.2 t810 bt819.1 bt819.2 (bt819.2 != bt806.2) a1_0 a1_1 l1_2 bt813.1 bt813.2.1 bt813.2.2) else (laws_FnExactProbeHappen.j0 k l0 bt806.1 bt806.2 t810 bt819.1 bt819.2 true a1_0 a1_1 l1_2 bt813.1 bt813.2.1 bt813.2.2))))))))))))) = some true := h
 clear h
 obtain ⟨t796, A3, H⟩ := bo H
 by_cases c4 : t796 < 0
 ·rw [if_pos c4] at H
  have c4b0 : decide (t796 < 0) = true := decide_eq_true c4
  clear c4 H
  go_enter Try.func6, Try.ntmps6
  go_wp2_with (first | ((with_reducible refine gate_dst (N := 3) rfl ?_); refine be 3 #[.bool a1_0, .string a1_1, .slice A1_2 l1_2.length c1_2] 57 ?_; intro gb795 hg w5 hbox hb; have _ := bs hb; have _ := ra (hbox); have _ := bz (w0 := w) hg; have _ := bz (w0 := w) hg; clear HB; rename_i HB BK795 GW795 GE795; clear hb hbox hg) | ((with_reducible refine gate_callee (f := 9) rfl ?_); refine gl (some 19) Try.func9 #[.slice A0 l0.length c0, .int .i64 1048576] ?_; (with_reducible refine (laws_szProbeTubeS.calls k _ _ l0 1048576 t796 _ ?side1 ?side2 A3.out).mono ?_); (case side1 => exact sc HR0); (case side2 => exact HC0.out); rintro e w6 ⟨rfl, hb⟩; refine ⟨_, rfl, ?_⟩; have _ := bb (bk BK795) hb; have _ := bs hb; clear BK795 HB; rename_i BK795 HB; (try clear hb); (try clear hb2); (try clear hk); (try clear hi)))
  go_ret
  exact ⟨re, bq⟩
 ·rw [if_neg c4] at H
  have c4b0 : decide (t796 < 0) = false := decide_eq_false c4
  clear c4
  obtain ⟨t797, A7, H⟩ := bo H
  by_cases c8 : t797 < 0
  ·rw [if_pos c8] at H
   have c8b0 : decide (t797 < 0) = true := decide_eq_true c8
   clear c8 H
   go_enter Try.func6, Try.ntmps6
   go_wp2_with (first | ((with_reducible refine gate_dst (N := 3) rfl ?_); refine be 3 #[.bool a1_0, .string a1_1, .slice A1_2 l1_2.length c1_2] 57 ?_; intro gb795 hg w9 hbox hb; have _ := bs hb; have _ := ra (hbox); have _ := bz (w0 := w) hg; have _ := bz (w0 := w) hg; clear HB; rename_i HB BK795 GW795 GE795; clear hb hbox hg) | ((with_reducible refine gate_callee (f := 9) rfl ?_); refine gl (some 19) Try.func9 #[.slice A0 l0.length c0, .int .i64 1048576] ?_; (with_reducible refine (laws_szProbeTubeS.calls k _ _ l0 1048576 t796 _ ?side1 ?side2 A3.out).mono ?_); (case side1 => exact sc HR0); (case side2 => exact HC0.out); rintro e w10 ⟨rfl, hb⟩; refine ⟨_, rfl, ?_⟩; have _ := bb (bk BK795) hb; have _ := bs hb; clear BK795 HB; rename_i BK795 HB; (try clear hb); (try clear hb2); (try clear hk); (try clear hi); have hcz11_0 : w10.cell? ⟨gb795, 0, none⟩ = some (.bool a1_0) := (blk_cell BK795.out 0).trans rfl; have hcz11_1 : w10.cell? ⟨gb795, 1, none⟩ = some (.string a1_1) := (blk_cell BK795.out 1).trans rfl; have hcz11_2 : w10.cell? ⟨gb795, 2, none⟩ = some (.slice A1_2 l1_2.length c1_2) := (blk_cell BK795.out 2).trans rfl; have hfz11_0 := blk_frozen BK795.out 0; have hfz11_1 := blk_frozen BK795.out 1; have hfz11_2 := blk_frozen BK795.out 2) | ((with_reducible refine gate_callee (f := 30) rfl ?_); refine gl (some 24) Try.func30 #[.agg #[.bool a1_0, .string a1_1, .slice A1_2 l1_2.length c1_2], .int .i64 t796] ?_; (with_reducible refine (laws_szProbeEvent.calls a1_0 a1_1 _ _ l1_2 t796 t797 _ ?side1 ?side2 A7.out).mono ?_); (case side1 => exact sc HR1_2); (case side2 => exact HC1_2.out); rintro e w12 ⟨rfl, hb⟩; refine ⟨_, rfl, ?_⟩; have _ := bb (bk BK795) hb; have _ := bs hb; clear BK795 HB; rename_i BK795 HB; (try clear hb); (try clear hb2); (try clear hk); (try clear hi)))
   go_ret
   exact ⟨re, bq⟩
  ·rw [if_neg c8] at H
   have c8b0 : decide (t797 < 0) = false := decide_eq_false c8
   clear c8
   obtain ⟨t798, A13, H⟩ := bo H
   obtain ⟨⟨t801, t802, t803⟩, A14, H⟩ := bo H
   try dsimp only at H
   obtain ⟨⟨t806, t809⟩, A15, H⟩ := bo H
   try dsimp only at H
   obtain ⟨t810, A16, H⟩ := bo H
   obtain ⟨⟨t813, t814, t815⟩, A17, H⟩ := bo H
   try dsimp only at H
   obtain ⟨⟨t819, t822⟩, A18, H⟩ := bo H
   try dsimp only at H
   have HC19 := Aside0.mk H
   clear H
   go_enter Try.func6, Try.ntmps6
   try go_wp2_with (first | ((with_reducible refine gate_dst (N := 3) rfl ?_); refine be 3 #[.bool a1_0, .string a1_1, .slice A1_2 l1_2.length c1_2] 57 ?_; intro gb795 hg w20 hbox hb; have _ := bs hb; have _ := ra (hbox); have _ := bz (w0 := w) hg; have _ := bz (w0 := w) hg; clear HB; rename_i HB BK795 GW795 GE795; clear hb hbox hg) | ((with_reducible refine gate_callee (f := 9) rfl ?_); refine gl (some 19) Try.func9 #[.slice A0 l0.length c0, .int .i64 1048576] ?_; (with_reducible refine (laws_szProbeTubeS.calls k _ _ l0 1048576 t796 _ ?side1 ?side2 A3.out).mono ?_); (case side1 => exact sc HR0); (case side2 => exact HC0.out); rintro e w21 ⟨rfl, hb⟩; refine ⟨_, rfl, ?_⟩; have _ := bb (bk BK795) hb; have _ := bs hb; clear BK795 HB; rename_i BK795 HB; (try clear hb); (try clear hb2); (try clear hk); (try clear hi); have hcz22_0 : w21.cell? ⟨gb795, 0, none⟩ = some (.bool a1_0) := (blk_cell BK795.out 0).trans rfl; have hcz22_1 : w21.cell? ⟨gb795, 1, none⟩ = some (.string a1_1) := (blk_cell BK795.out 1).trans rfl; have hcz22_2 : w21.cell? ⟨gb795, 2, none⟩ = some (.slice A1_2 l1_2.length c1_2) := (blk_cell BK795.out 2).trans rfl; have hfz22_0 := blk_frozen BK795.out 0; have hfz22_1 := blk_frozen BK795.out 1; have hfz22_2 := blk_frozen BK795.out 2) | ((with_reducible refine gate_callee (f := 30) rfl ?_); refine gl (some 24) Try.func30 #[.agg #[.bool a1_0, .string a1_1, .slice A1_2 l1_2.length c1_2], .int .i64 t796] ?_; (with_reducible refine (laws_szProbeEvent.calls a1_0 a1_1 _ _ l1_2 t796 t797 _ ?side1 ?side2 A7.out).mono ?_); (case side1 => exact sc HR1_2); (case side2 => exact HC1_2.out); rintro e w23 ⟨rfl, hb⟩; refine ⟨_, rfl, ?_⟩; have _ := bb (bk BK795) hb; have _ := bs hb; clear BK795 HB; rename_i BK795 HB; (try clear hb); (try clear hb2); (try clear hk); (try clear hi)))
   have _ := ra (blk_drew BK795.out)
   have _ := ra (below_drew1 HB.out)
   clear BK795 HB
   rename_i BK795 HB
   refine start_ (n := 10) (S := fun w' => w'.cell? ⟨gb795, 0, none⟩ = some (.bool a1_0) ∧ w'.cell? ⟨gb795, 1, none⟩ = some (.string a1_1) ∧ w'.cell? ⟨gb795, 2, none⟩ = some (.slice A1_2 l1_2.length c1_2)) (ds := []) (bl 10 0) (by kernel_rfl) rfl rfl ⟨(blk_cell BK795.out 0).trans rfl, (blk_cell BK795.out 1).trans rfl, (blk_cell BK795.out 2).trans rfl⟩ (fun hHeld => ?_); refine with_tabW laws_FnExactProbeHappen.tab8 laws_FnExactProbeHappen.bits8 (fun HT_ HW_ => ?_)
   generalize w23.drew = w24 at BK795 HB hHeld ⊢
   refine pu 0 28 (bl 10 1) ?_
   refine tk 2 30 (bl 10 5) ?_ hHeld
   refine oe 1 29 (bl 10 7) (fun K hK => ?_)
   refine gs Try.func11 #[.slice A0 l0.length c0] ?_
   with_reducible refine (laws_toProbeTubeS.calls k _ _ l0 t798 _ ?side1 ?side2 A13.out).mono ?_
   (case side1 => exact sc HR0)
   (case side2 => exact HC0.out)
   rintro e w25 ⟨v799, rfl, ho0, hb⟩
   refine ⟨_, rfl, ?_⟩; obtain ⟨Nb798, hNb798, ho0⟩ := Z.S_ghost ho0; have GN798 := ra (show w.heap.size ≤ Nb798 from by rw [hNb798]; exact below_size (by repeat (first | (with_reducible first | exact HB.out | apply below_alloc | apply pw_below_drewN | apply below_drew1 | refine below_set ?_ (Aside0.out (by assumption))) | exact HB.out)))
   have _ := ra (ho0)
   have _ := bb (bk BK795) hb
   have _ := bs hb
   clear hNb798 BK795 HB
   rename_i HO800 BK795 HB
   (try clear hb)
   (try clear hb2)
   (try clear hk)
   (try clear hi)
   (try clear ho0)
   refine hK.out _ _ ⟨(blk_cell BK795.out 0).trans rfl, (blk_cell BK795.out 1).trans rfl, (blk_cell BK795.out 2).trans rfl⟩ (fun hHeld => ?_)
   clear hK K
   refine nm 29 ?_
   refine oe 3 31 (bl 10 15) (fun K hK => ?_)
   refine gs Try.func32 #[.agg #[.bool a1_0, .string a1_1, .slice A1_2 l1_2.length c1_2]] ?_
   with_reducible refine (laws_toProbeEvent.calls k a1_0 a1_1 _ _ l1_2 t801 t802 t803 _ ?side1 ?side2 A14.out).mono ?_
   (case side1 => exact sc HR1_2)
   (case side2 => exact HC1_2.out)
   rintro e w26 ⟨v804, rfl, ho0, hb⟩
   refine ⟨_, rfl, ?_⟩
   have _ := ra (Kd.S_elder' (by (with_reducible repeat (first | apply Kd.S_alloc | apply Kd.S_drewN | apply Kd.S_drew)); exact HO800.out) (Kd.R_base ho0) hb)
   have _ := ra (Kd.R_lower ho0 (below_size bq))
   have _ := bb (bk BK795) hb
   have _ := bs hb
   clear HO800 BK795 HB
   rename_i HO800 HO805 BK795 HB
   (try clear hb)
   (try clear hb2)
   (try clear hk)
   (try clear hi)
   (try clear ho0)
   obtain ⟨Ao27, co27, eo27⟩ := Kd.S_slice HO800.out
   (first | subst eo27 | (injection eo27 with f1_ f2_ f3_; have f4_ := f1_.symm; have f5_ := f3_.symm; clear f1_ f2_ f3_; subst f4_; subst f5_))
   obtain ⟨Ao28, co28, eo28⟩ := Kd.R_slice HO805.out
   (first | subst eo28 | (injection eo28 with f1_ f2_ f3_; have f4_ := f1_.symm; have f5_ := f3_.symm; clear f1_ f2_ f3_; subst f4_; subst f5_))
   refine hK.out _ _ ⟨(blk_cell BK795.out 0).trans rfl, (blk_cell BK795.out 1).trans rfl, (blk_cell BK795.out 2).trans rfl⟩ (fun hHeld => ?_)
   clear hK K
   refine nm 31 ?_
   refine oe 4 32 (bl 10 31) (fun K hK => ?_)
   refine gs Try.func31 #[.slice Ao27 t798.length co27, .agg #[.bool t801, .string t802, .slice Ao28 t803.length co28]] ?_
   with_reducible refine (spec_ProbeHappen.calls k (fun k_ => ((True ∧ some k_ ≠ (.slice Ao28 t803.length co28 : Value).ownBlock) ∧ k_ ≠ gb795)) _ _ t798 t801 t802 (fun k_ => some k_ = (.slice Ao28 t803.length co28 : Value).ownBlock) _ _ t803 t806 t809 _ ?side1 ?side2 A15.out).mono ?_
   (case side1 => exact Kd.S_V (Kd.S_types (HO800.out) BK795.out (by decide)))
   (case side2 => exact Kd.R_V (Kd.R_tight rfl (Kd.R_types (Kd.R_apart' (HO805.out) (Kd.S_typed HO800.out) (by decide)) BK795.out (by decide))))
   rintro e w29 ⟨v807, rfl, ho0, hb⟩
   refine ⟨_, rfl, ?_⟩; obtain ⟨Nb806, hNb806, ho0⟩ := Z.S_ghost ho0; have GN806 := ra (show w.heap.size ≤ Nb806 from by rw [hNb806]; exact below_size (by repeat (first | (with_reducible first | exact HB.out | apply below_alloc | apply pw_below_drewN | apply below_drew1 | refine below_set ?_ (Aside0.out (by assumption))) | exact HB.out)))
   have _ := ra (Z.S_elderN (by (with_reducible repeat (first | apply Kd.S_alloc | apply Kd.S_drewN | apply Kd.S_drew)); exact HO800.out) hNb806 hb)
   have _ := ra (Kd.R_below (rq HO805) hb)
   have _ := ra ((Z.S_newN hNb806 (Z.S_newN hNb806 (Kd.S_mono (ok' := fun k_ => True) ho0 (fun _ hk_ => trivial)) (Kd.S_lt (by (with_reducible repeat (first | apply Kd.S_alloc | apply Kd.S_drewN | apply Kd.S_drew)); exact HO800.out))) (Kd.R_lt (rq HO805))))
   have _ := bb (bk BK795) hb
   have _ := bs hb
   clear hNb806 HO800 HO805 BK795 HB
   rename_i HO800 HO805 HO808 BK795 HB
   (try clear hb)
   (try clear hb2)
   (try clear hk)
   (try clear hi)
   (try clear ho0)
   refine hK.out _ _ ⟨(blk_cell BK795.out 0).trans rfl, (blk_cell BK795.out 1).trans rfl, (blk_cell BK795.out 2).trans rfl⟩ (fun hHeld => ?_)
   clear hK K
   refine nm 32 ?_
   refine pu 5 27 (bl 10 63) ?_
   refine pu 6 33 (bl 10 127) ?_
   refine pu 7 34 (bl 10 255) ?_
   refine pu 8 6 (bl 10 511) ?_
   refine pu 9 7 (bl 10 1023) ?_
   refine done_ (done_of HT_.out (by kernel_rfl)) ?_
   go_upto_region 12 with (first | ((with_reducible refine gate_callee (f := 11) rfl ?_); refine gl (some 36) Try.func11 #[.slice A0 l0.length c0] ?_; (with_reducible refine (laws_toProbeTubeS.calls k _ _ l0 t810 _ ?side1 ?side2 A16.out).mono ?_); (case side1 => exact sc HR0); (case side2 => exact HC0.out); rintro e w30 ⟨v811, rfl, ho0, hb⟩; refine ⟨_, rfl, ?_⟩; obtain ⟨Nb810, hNb810, ho0⟩ := Z.S_ghost ho0; have GN810 := ra (show w.heap.size ≤ Nb810 from by rw [hNb810]; exact below_size (by repeat (first | (with_reducible first | exact HB.out | apply below_alloc | apply pw_below_drewN | apply below_drew1 | refine below_set ?_ (Aside0.out (by assumption))) | exact HB.out))); have _ := ra (Z.S_elderN (by (with_reducible repeat (first | apply Kd.S_alloc | apply Kd.S_drewN | apply Kd.S_drew)); exact HO800.out) hNb810 hb); have _ := ra (Kd.R_below (rq HO805) hb); have _ := ra (Z.S_elderN (by (with_reducible repeat (first | apply Kd.S_alloc | apply Kd.S_drewN | apply Kd.S_drew)); exact HO808.out) hNb810 hb); have _ := ra ((Z.S_newN hNb810 (Z.S_newN hNb810 (Z.S_newN hNb810 ho0 (Kd.S_lt (by (with_reducible repeat (first | apply Kd.S_alloc | apply Kd.S_drewN | apply Kd.S_drew)); exact HO800.out))) (Kd.R_lt (rq HO805))) (Kd.S_lt (by (with_reducible repeat (first | apply Kd.S_alloc | apply Kd.S_drewN | apply Kd.S_drew)); exact HO808.out)))); have _ := bb (bk BK795) hb; have _ := bs hb; clear hNb810 HO800 HO805 HO808 BK795 HB; rename_i HO800 HO805 HO808 HO812 BK795 HB; (try clear hb); (try clear hb2); (try clear hk); (try clear hi); (try clear ho0); have hcz31_0 : w30.cell? ⟨gb795, 0, none⟩ = some (.bool a1_0) := (blk_cell BK795.out 0).trans rfl; have hcz31_1 : w30.cell? ⟨gb795, 1, none⟩ = some (.string a1_1) := (blk_cell BK795.out 1).trans rfl; have hcz31_2 : w30.cell? ⟨gb795, 2, none⟩ = some (.slice A1_2 l1_2.length c1_2) := (blk_cell BK795.out 2).trans rfl; have hfz31_0 := blk_frozen BK795.out 0; have hfz31_1 := blk_frozen BK795.out 1; have hfz31_2 := blk_frozen BK795.out 2) | ((with_reducible refine gate_callee (f := 32) rfl ?_); refine gl (some 38) Try.func32 #[.agg #[.bool a1_0, .string a1_1, .slice A1_2 l1_2.length c1_2]] ?_; (with_reducible refine (laws_toProbeEvent.calls k a1_0 a1_1 _ _ l1_2 t813 t814 t815 _ ?side1 ?side2 A17.out).mono ?_); (case side1 => exact sc HR1_2); (case side2 => exact HC1_2.out); rintro e w32 ⟨v816, rfl, ho0, hb⟩; refine ⟨_, rfl, ?_⟩; have _ := ra (Kd.S_elder' (by (with_reducible repeat (first | apply Kd.S_alloc | apply Kd.S_drewN | apply Kd.S_drew)); exact HO800.out) (Kd.R_base ho0) hb); have _ := ra (Kd.R_elder' (rq HO805) (Kd.R_base ho0) hb); have _ := ra (Kd.S_elder' (by (with_reducible repeat (first | apply Kd.S_alloc | apply Kd.S_drewN | apply Kd.S_drew)); exact HO808.out) (Kd.R_base ho0) hb); have _ := ra (Kd.S_elder' (by (with_reducible repeat (first | apply Kd.S_alloc | apply Kd.S_drewN | apply Kd.S_drew)); exact HO812.out) (Kd.R_base ho0) hb); have _ := ra (Kd.R_lower (Kd.R_new' ho0 (Kd.R_lt (rq HO805))) (below_size bq)); have _ := bb (bk BK795) hb; have _ := bs hb; clear HO800 HO805 HO808 HO812 BK795 HB; rename_i HO800 HO805 HO808 HO812 HO817 BK795 HB; (try clear hb); (try clear hb2); (try clear hk); (try clear hi); (try clear ho0)) | ((with_reducible refine gate_dst (N := 9) rfl ?_); refine be 9 #[.bool false, .string (⟨#[]⟩ : ByteArray), .slice none 0 0] 54 ?_; intro gb818 hg w33 hbox hb; have _ := ra (Kd.S_below (by (with_reducible repeat (first | apply Kd.S_alloc | apply Kd.S_drewN | apply Kd.S_drew)); exact HO800.out) hb); have _ := ra (Kd.R_below (rq HO805) hb); have _ := ra (Kd.S_below (by (with_reducible repeat (first | apply Kd.S_alloc | apply Kd.S_drewN | apply Kd.S_drew)); exact HO808.out) hb); have _ := ra (Kd.S_below (by (with_reducible repeat (first | apply Kd.S_alloc | apply Kd.S_drewN | apply Kd.S_drew)); exact HO812.out) hb); have _ := ra (Kd.R_below (rq HO817) hb); have _ := bb (bk BK795) hb; have _ := bs hb; have _ := ra (hbox); have _ := bz (w0 := w) hg; have _ := bz (w0 := w) hg; have _ := bn hg (bk BK795); have _ := bm hg (bk BK795); clear HO800 HO805 HO808 HO812 HO817 BK795 HB; rename_i HO800 HO805 HO808 HO812 HO817 BK795 HB BK818 GW818 GE818 NB795_818 NB818_795; clear hb hbox hg; have hnb34 := NB818_795.out; have hnc34 := NB795_818.out; have hcz35_0 : w33.cell? ⟨gb818, 0, none⟩ = some (.bool false) := (blk_cell BK818.out 0).trans rfl; have hcz35_1 : w33.cell? ⟨gb818, 1, none⟩ = some (.string (⟨#[]⟩ : ByteArray)) := (blk_cell BK818.out 1).trans rfl; have hcz35_2 : w33.cell? ⟨gb818, 2, none⟩ = some (.slice none 0 0) := (blk_cell BK818.out 2).trans rfl; have hfz35_0 := blk_frozen BK818.out 0; have hfz35_1 := blk_frozen BK818.out 1; have hfz35_2 := blk_frozen BK818.out 2; obtain ⟨Ao36, co36, eo36⟩ := Kd.R_slice HO817.out; subst eo36; obtain ⟨Ao37, co37, eo37⟩ := Kd.S_slice HO812.out; subst eo37) | ((with_reducible refine gate_callee (f := 29) rfl ?_); refine gl (some 42) Try.func29 #[.slice Ao37 t810.length co37, .agg #[.bool t813, .string t814, .slice Ao36 t815.length co36]] ?_; (with_reducible refine (impl_ProbeHappen.calls k _ _ t810 t813 t814 _ _ t815 t819 t822 _ ?side1 ?side2 ?side3 ?side4 A18.out).mono ?_); (case side1 => refine (Kd.S_reads' (e := 40) (base := Nb810) (ok := fun k_ => ((((True ∧ some k_ ≠ (.slice Ao27 t798.length co27 : Value).ownBlock) ∧ some k_ ≠ (.slice Ao28 t803.length co28 : Value).ownBlock) ∧ some k_ ≠ (v807 : Value).ownBlock) ∧ some k_ ≠ (.slice Ao36 t815.length co36 : Value).ownBlock)) (n := t810.length) (c := co37) ?_).2.2; exact (by (with_reducible repeat (first | apply Kd.S_alloc | apply Kd.S_drewN | apply Kd.S_drew)); exact (Kd.S_mono (Kd.S_far (p := ⟨gb818, 2, none⟩) (Kd.S_far (p := ⟨gb818, 1, none⟩) (Kd.S_far (p := ⟨gb818, 0, none⟩) (Kd.S_types HO812.out BK818.out (by decide)) (fun _ hk => hk.2) (.bool t813)) (fun _ hk => hk.2) (.string t814)) (fun _ hk => hk.2) (.slice Ao36 t815.length co36)) (fun _ h_ => h_.1)))); (case side2 => exact (Kd.S_reads' HO812.out).2.1); (case side3 => refine (Kd.R_reads' (e := 95) (base := w.heap.size) (ok := fun k_ => (True ∧ some k_ ≠ (.slice Ao28 t803.length co28 : Value).ownBlock)) (n := t815.length) (c := co36) ?_).2.2; exact (Kd.R_mono (rf (Kd.R_types HO817.out BK818.out (by decide))) (fun _ h_ => h_.1))); (case side4 => exact (Kd.R_reads' HO817.out).2.1); rintro e w38 ⟨v820, rfl, ho0, hb⟩; refine ⟨_, rfl, ?_⟩; obtain ⟨Nb819, hNb819, ho0⟩ := Z.S_ghost ho0; have GN819 := ra (show w.heap.size ≤ Nb819 from by rw [hNb819]; exact below_size (by repeat (first | (with_reducible first | exact HB.out | apply below_alloc | apply pw_below_drewN | apply below_drew1 | refine below_set ?_ (Aside0.out (by assumption))) | exact HB.out))); have _ := ra (Z.S_elderN (by (with_reducible repeat (first | apply Kd.S_alloc | apply Kd.S_drewN | apply Kd.S_drew)); exact (Kd.S_mono (Kd.S_far (p := ⟨gb818, 2, none⟩) (Kd.S_far (p := ⟨gb818, 1, none⟩) (Kd.S_far (p := ⟨gb818, 0, none⟩) (Kd.S_types HO800.out BK818.out (by decide)) (fun _ hk => hk.2) (.bool t813)) (fun _ hk => hk.2) (.string t814)) (fun _ hk => hk.2) (.slice Ao36 t815.length co36)) (fun _ h_ => h_.1))) hNb819 hb); have _ := ra (Kd.R_below (Kd.R_mono (rf (Kd.R_types HO805.out BK818.out (by decide))) (fun _ h_ => h_.1)) hb); have _ := ra (Z.S_elderN (by (with_reducible repeat (first | apply Kd.S_alloc | apply Kd.S_drewN | apply Kd.S_drew)); exact (Kd.S_mono (Kd.S_far (p := ⟨gb818, 2, none⟩) (Kd.S_far (p := ⟨gb818, 1, none⟩) (Kd.S_far (p := ⟨gb818, 0, none⟩) (Kd.S_types HO808.out BK818.out (by decide)) (fun _ hk => hk.2) (.bool t813)) (fun _ hk => hk.2) (.string t814)) (fun _ hk => hk.2) (.slice Ao36 t815.length co36)) (fun _ h_ => h_.1))) hNb819 hb); have _ := ra (Z.S_elderN (by (with_reducible repeat (first | apply Kd.S_alloc | apply Kd.S_drewN | apply Kd.S_drew)); exact (Kd.S_mono (Kd.S_far (p := ⟨gb818, 2, none⟩) (Kd.S_far (p := ⟨gb818, 1, none⟩) (Kd.S_far (p := ⟨gb818, 0, none⟩) (Kd.S_types HO812.out BK818.out (by decide)) (fun _ hk => hk.2) (.bool t813)) (fun _ hk => hk.2) (.string t814)) (fun _ hk => hk.2) (.slice Ao36 t815.length co36)) (fun _ h_ => h_.1))) hNb819 hb); have _ := ra (Kd.R_below (Kd.R_mono (rf (Kd.R_types HO817.out BK818.out (by decide))) (fun _ h_ => h_.1)) hb); have _ := ra ((Z.S_newN hNb819 (Z.S_newN hNb819 (Z.S_newN hNb819 (Z.S_newN hNb819 (Z.S_newN hNb819 ho0 (Kd.S_lt (by (with_reducible repeat (first | apply Kd.S_alloc | apply Kd.S_drewN | apply Kd.S_drew)); exact (Kd.S_mono (Kd.S_far (p := ⟨gb818, 2, none⟩) (Kd.S_far (p := ⟨gb818, 1, none⟩) (Kd.S_far (p := ⟨gb818, 0, none⟩) (Kd.S_types HO800.out BK818.out (by decide)) (fun _ hk => hk.2) (.bool t813)) (fun _ hk => hk.2) (.string t814)) (fun _ hk => hk.2) (.slice Ao36 t815.length co36)) (fun _ h_ => h_.1))))) (Kd.R_lt (Kd.R_mono (rf (Kd.R_types HO805.out BK818.out (by decide))) (fun _ h_ => h_.1)))) (Kd.S_lt (by (with_reducible repeat (first | apply Kd.S_alloc | apply Kd.S_drewN | apply Kd.S_drew)); exact (Kd.S_mono (Kd.S_far (p := ⟨gb818, 2, none⟩) (Kd.S_far (p := ⟨gb818, 1, none⟩) (Kd.S_far (p := ⟨gb818, 0, none⟩) (Kd.S_types HO808.out BK818.out (by decide)) (fun _ hk => hk.2) (.bool t813)) (fun _ hk => hk.2) (.string t814)) (fun _ hk => hk.2) (.slice Ao36 t815.length co36)) (fun _ h_ => h_.1))))) (Kd.S_lt (by (with_reducible repeat (first | apply Kd.S_alloc | apply Kd.S_drewN | apply Kd.S_drew)); exact (Kd.S_mono (Kd.S_far (p := ⟨gb818, 2, none⟩) (Kd.S_far (p := ⟨gb818, 1, none⟩) (Kd.S_far (p := ⟨gb818, 0, none⟩) (Kd.S_types HO812.out BK818.out (by decide)) (fun _ hk => hk.2) (.bool t813)) (fun _ hk => hk.2) (.string t814)) (fun _ hk => hk.2) (.slice Ao36 t815.length co36)) (fun _ h_ => h_.1))))) (Kd.R_lt (Kd.R_mono (rf (Kd.R_types HO817.out BK818.out (by decide))) (fun _ h_ => h_.1))))); have _ := bb (bk BK795) hb; have _ := bb (o := .cells #[.bool t813, .string t814, .slice Ao36 t815.length co36] 54 (0, 0)) (bp BK818) hb; have _ := bs hb; clear hNb819 HO800 HO805 HO808 HO812 HO817 BK795 BK818 HB; rename_i HO800 HO805 HO808 HO812 HO817 HO821 BK795 BK818 HB; (try clear hb); (try clear hb2); (try clear hk); (try clear hi); (try clear ho0)))
   (try simp only [Act.put, List.setIfInBounds_toArray, List.set_cons_zero, List.set_cons_succ])
   go_cut [53] (fun v53 wc => ∃ (kq : Nat) (x53_18 : Bool), v53 = .bool x53_18 ∧ Aside0 (laws_FnExactProbeHappen.j0 kq l0 t806 t809 t810 t819 t822 x53_18 a1_0 a1_1 l1_2 t813 t814 t815 = some true) ∧ Aside0 (kq ≤ k) ∧ Aside0 (Kd.S k40 40 wc Nb806 (fun k_ => k_ < Nb810 ∧ k_ < Nb819 ∧ some k_ ≠ ((.slice Ao36 t815.length co36) : Value).ownBlock) v807 t806) ∧ Aside0 (Kd.S k40 40 wc Nb810 (fun k_ => some k_ ≠ (v807 : Value).ownBlock ∧ k_ < Nb819 ∧ some k_ ≠ ((.slice Ao36 t815.length co36) : Value).ownBlock) (.slice Ao37 t810.length co37) t810) ∧ Aside0 (Kd.S k40 40 wc Nb819 (fun k_ => some k_ ≠ (v807 : Value).ownBlock ∧ some k_ ≠ ((.slice Ao37 t810.length co37) : Value).ownBlock ∧ some k_ ≠ ((.slice Ao36 t815.length co36) : Value).ownBlock) v820 t819) ∧ Aside0 (Kd.R k95 95 wc w.heap.size (fun _ => True) (.slice Ao36 t815.length co36) t815) ∧ Aside0 (wc.heap[gb795]? = some (.cells #[.bool a1_0, .string a1_1, (.slice A1_2 l1_2.length c1_2)] 57 (0, 0))) ∧ Aside0 (wc.heap[gb818]? = some (.cells #[.bool t813, .string t814, (.slice Ao36 t815.length co36)] 54 (0, 0))) ∧ Aside0 (Below w.heap.size w wc))
   case first =>
    have H := HC19.out
    clear HC19
    obtain ⟨t823, A39, H⟩ := bo H
    by_cases c40 : t823 = true
    ·subst c40
     replace H := it H rfl
     have H' := Aside0.mk H
     clear H
     obtain ⟨Ao41, co41, eo41⟩ := Kd.S_slice HO821.out
     subst eo41
     obtain ⟨Ao42, co42, eo42⟩ := Kd.S_slice HO808.out
     subst eo42
     go_wp2_with (first | ((with_reducible refine gate_callee (f := 14) rfl ?_); refine gl (some 47) Try.func14 #[.slice Ao41 t819.length co41, .slice Ao42 t806.length co42] ?_; (with_reducible refine (laws_eqProbeTubeS.calls k _ _ t819 _ _ t806 true _ ?side1 ?side2 ?side3 ?side4 A39.out).mono ?_); (case side1 => repeat (first | exact (Kd.S_reads' HO821.out).2.2 | (with_reducible refine Kd.C_alloc ?_ _) | (with_reducible refine Kd.C_drewN ?_ _) | (with_reducible refine Kd.C_drew ?_))); (case side2 => exact (Kd.S_reads' HO821.out).2.1); (case side3 => repeat (first | exact (Kd.S_reads' HO808.out).2.2 | (with_reducible refine Kd.C_alloc ?_ _) | (with_reducible refine Kd.C_drewN ?_ _) | (with_reducible refine Kd.C_drew ?_))); (case side4 => exact (Kd.S_reads' HO808.out).2.1); rintro e w43 ⟨rfl, hb⟩; refine ⟨_, rfl, ?_⟩; have _ := ra (Kd.S_below (by (with_reducible repeat (first | apply Kd.S_alloc | apply Kd.S_drewN | apply Kd.S_drew)); exact HO800.out) hb); have _ := ra (Kd.R_below (rq HO805) hb); have _ := ra (Kd.S_below (by (with_reducible repeat (first | apply Kd.S_alloc | apply Kd.S_drewN | apply Kd.S_drew)); exact HO808.out) hb); have _ := ra (Kd.S_below (by (with_reducible repeat (first | apply Kd.S_alloc | apply Kd.S_drewN | apply Kd.S_drew)); exact HO812.out) hb); have _ := ra (Kd.R_below (rq HO817) hb); have _ := ra (Kd.S_below (by (with_reducible repeat (first | apply Kd.S_alloc | apply Kd.S_drewN | apply Kd.S_drew)); exact HO821.out) hb); have _ := bb (bk BK795) hb; have _ := bb (bk BK818) hb; have _ := bs hb; clear HO800 HO805 HO808 HO812 HO817 HO821 BK795 BK818 HB; rename_i HO800 HO805 HO808 HO812 HO817 HO821 BK795 BK818 HB; (try clear hb); (try clear hb2); (try clear hk); (try clear hi)))
     go_meet
     case rel => exact ⟨_, ((t822 != t809)), rs, H', ⟨by first | omega | exact Nat.le_refl _⟩, ⟨by (with_reducible repeat (first | apply Kd.S_alloc | apply Kd.S_drewN | apply Kd.S_drew)); exact Kd.S_mono HO808.out (fun _ hk => ⟨hk.1.1.2, ⟨hk.2, hk.1.2⟩⟩)⟩, ⟨by (with_reducible repeat (first | apply Kd.S_alloc | apply Kd.S_drewN | apply Kd.S_drew)); exact Kd.S_mono HO812.out (fun _ hk => ⟨hk.1.1.2, ⟨hk.2, hk.1.2⟩⟩)⟩, ⟨by (with_reducible repeat (first | apply Kd.S_alloc | apply Kd.S_drewN | apply Kd.S_drew)); exact Kd.S_mono HO821.out (fun _ hk => ⟨hk.1.1.2, ⟨hk.1.2, hk.2⟩⟩)⟩, ⟨by (with_reducible repeat (first | apply Kd.R_alloc | apply Kd.R_drewN | apply Kd.R_drew)); exact Kd.R_mono HO817.out (fun _ hk => trivial)⟩, ⟨bk BK795⟩, ⟨bk BK818⟩, ⟨bq⟩⟩
    ·replace c40 := Bool.eq_false_iff.mpr c40
     subst c40
     have H1 : (laws_FnExactProbeHappen.j0 k l0 t806 t809 t810 t819 t822 true a1_0 a1_1 l1_2 t813 t814 t815) = some true := by rw [if_neg (show ¬ (false = true) by decide)] at H; exact H
     clear H
     have H := H1
     clear H1
     have H' := Aside0.mk H
     clear H
     obtain ⟨Ao44, co44, eo44⟩ := Kd.S_slice HO821.out
     subst eo44
     obtain ⟨Ao45, co45, eo45⟩ := Kd.S_slice HO808.out
     subst eo45
     go_wp2_with (first | ((with_reducible refine gate_callee (f := 14) rfl ?_); refine gl (some 47) Try.func14 #[.slice Ao44 t819.length co44, .slice Ao45 t806.length co45] ?_; (with_reducible refine (laws_eqProbeTubeS.calls k _ _ t819 _ _ t806 false _ ?side1 ?side2 ?side3 ?side4 A39.out).mono ?_); (case side1 => repeat (first | exact (Kd.S_reads' HO821.out).2.2 | (with_reducible refine Kd.C_alloc ?_ _) | (with_reducible refine Kd.C_drewN ?_ _) | (with_reducible refine Kd.C_drew ?_))); (case side2 => exact (Kd.S_reads' HO821.out).2.1); (case side3 => repeat (first | exact (Kd.S_reads' HO808.out).2.2 | (with_reducible refine Kd.C_alloc ?_ _) | (with_reducible refine Kd.C_drewN ?_ _) | (with_reducible refine Kd.C_drew ?_))); (case side4 => exact (Kd.S_reads' HO808.out).2.1); rintro e w46 ⟨rfl, hb⟩; refine ⟨_, rfl, ?_⟩; have _ := ra (Kd.S_below (by (with_reducible repeat (first | apply Kd.S_alloc | apply Kd.S_drewN | apply Kd.S_drew)); exact HO800.out) hb); have _ := ra (Kd.R_below (rq HO805) hb); have _ := ra (Kd.S_below (by (with_reducible repeat (first | apply Kd.S_alloc | apply Kd.S_drewN | apply Kd.S_drew)); exact HO808.out) hb); have _ := ra (Kd.S_below (by (with_reducible repeat (first | apply Kd.S_alloc | apply Kd.S_drewN | apply Kd.S_drew)); exact HO812.out) hb); have _ := ra (Kd.R_below (rq HO817) hb); have _ := ra (Kd.S_below (by (with_reducible repeat (first | apply Kd.S_alloc | apply Kd.S_drewN | apply Kd.S_drew)); exact HO821.out) hb); have _ := bb (bk BK795) hb; have _ := bb (bk BK818) hb; have _ := bs hb; clear HO800 HO805 HO808 HO812 HO817 HO821 BK795 BK818 HB; rename_i HO800 HO805 HO808 HO812 HO817 HO821 BK795 BK818 HB; (try clear hb); (try clear hb2); (try clear hk); (try clear hi)))
     go_meet
     case rel => exact ⟨_, (true), rs, H', ⟨by first | omega | exact Nat.le_refl _⟩, ⟨by (with_reducible repeat (first | apply Kd.S_alloc | apply Kd.S_drewN | apply Kd.S_drew)); exact Kd.S_mono HO808.out (fun _ hk => ⟨hk.1.1.2, ⟨hk.2, hk.1.2⟩⟩)⟩, ⟨by (with_reducible repeat (first | apply Kd.S_alloc | apply Kd.S_drewN | apply Kd.S_drew)); exact Kd.S_mono HO812.out (fun _ hk => ⟨hk.1.1.2, ⟨hk.2, hk.1.2⟩⟩)⟩, ⟨by (with_reducible repeat (first | apply Kd.S_alloc | apply Kd.S_drewN | apply Kd.S_drew)); exact Kd.S_mono HO821.out (fun _ hk => ⟨hk.1.1.2, ⟨hk.1.2, hk.2⟩⟩)⟩, ⟨by (with_reducible repeat (first | apply Kd.R_alloc | apply Kd.R_drewN | apply Kd.R_drew)); exact Kd.R_mono HO817.out (fun _ hk => trivial)⟩, ⟨bk BK795⟩, ⟨bk BK818⟩, ⟨bq⟩⟩
   case rest =>
    clear HC19
    try clear c4
    try clear c4b0
    try clear c8
    try clear c8b0
    try clear c40
    try clear hcz11_0
    try clear hcz11_1
    try clear hcz11_2
    try clear hcz22_0
    try clear hcz22_1
    try clear hcz22_2
    try clear hcz31_0
    try clear hcz31_1
    try clear hcz31_2
    try clear hcz35_0
    try clear hcz35_1
    try clear hcz35_2
    try clear hfz11_0
    try clear hfz11_1
    try clear hfz11_2
    try clear hfz22_0
    try clear hfz22_1
    try clear hfz22_2
    try clear hfz31_0
    try clear hfz31_1
    try clear hfz31_2
    try clear hfz35_0
    try clear hfz35_1
    try clear hfz35_2
    obtain ⟨kq, x53_18, rfl, HA, HJ18, HO_6, HO_8, HO_10, HO_819002, BK795, BK818, HB⟩ := hcut
    cases kq with
    | zero => exact absurd HA.out (by simp [laws_FnExactProbeHappen.j0])
    | succ kj18 =>
     have H := HA.out
     clear HA
     simp only [laws_FnExactProbeHappen.j0] at H
     by_cases c47 : x53_18 = true
     ·subst c47
      have H1 : (some false) = some true := by rw [if_pos rfl] at H; exact H
      clear H
      have H := H1
      exact absurd (Option.some.inj H) (by decide)
     ·replace c47 := Bool.eq_false_iff.mpr c47
      subst c47
      have H1 : ((laws_toProbeTubeS.f kj18 l0).bind fun t824 => ((laws_eqProbeTubeS.f kj18 t810 t824).bind fun t827 => (if t827 = true then ((laws_toProbeEvent.f kj18 a1_0 a1_1 l1_2).bind fun bt828 => ((laws_eqProbeEvent.f kj18 t813 t814 t815 bt828.1 bt828.2.1 bt828.2.2).bind fun t833 => (if t833 = true then ((laws_markProbeTubeS.f kj18 t810 1).bind fun bt834 => ((laws_markProbeEvent.f kj18 t813 t814 t815 bt834.1).bind fun bt836 => (if bt836.1 < 0 then (laws_FnExactProbeHappen.j1 kj18 l0 t806 t809 t819 true a1_0 a1_1 l1_2) else ((laws_eqProbeTubeS.f kj18 t819 t806).bind fun t838 => (if t838 = true then (laws_FnExactProbeHappen.j1 kj18 l0 t806 t809 t819 (t822 != t809) a1_0 a1_1 l1_2) else (laws_FnExactProbeHappen.j1 kj18 l0 t806 t809 t819 true a1_0 a1_1 l1_2)))))) else (some false)))) else (some false)))) = some true := by rw [if_neg (show ¬ (false = true) by decide)] at H; exact H
      clear H
      have H := H1
      clear H1
      obtain ⟨t824, A48, H⟩ := bo H
      obtain ⟨t827, A49, H⟩ := bo H
      by_cases c50 : t827 = true
      ·subst c50
       replace H := it H rfl
       obtain ⟨⟨t828, t829, t830⟩, A51, H⟩ := bo H
       try dsimp only at H
       obtain ⟨t833, A52, H⟩ := bo H
       by_cases c53 : t833 = true
       ·subst c53
        replace H := it H rfl
        obtain ⟨⟨t834, t835⟩, A54, H⟩ := bo H
        try dsimp only at H
        obtain ⟨⟨t836, t837⟩, A55, H⟩ := bo H
        try dsimp only at H
        have HC56 := Aside0.mk H
        clear H
        try go_wp2_with (first | ((with_reducible refine gate_callee (f := 11) rfl ?_); refine gl (some 56) Try.func11 #[.slice A0 l0.length c0] ?_; (with_reducible refine (laws_toProbeTubeS.calls kj18 _ _ l0 t824 _ ?side1 ?side2 A48.out).mono ?_); (case side1 => exact sc HR0); (case side2 => exact HC0.out); rintro e w57 ⟨v825, rfl, ho0, hb⟩; refine ⟨_, rfl, ?_⟩; obtain ⟨Nb824, hNb824, ho0⟩ := Z.S_ghost ho0; have GN824 := ra (show w.heap.size ≤ Nb824 from by rw [hNb824]; exact below_size (by repeat (first | (with_reducible first | exact HB.out | apply below_alloc | apply pw_below_drewN | apply below_drew1 | refine below_set ?_ (Aside0.out (by assumption))) | exact HB.out))); have _ := ra (Z.S_elderN (by (with_reducible repeat (first | apply Kd.S_alloc | apply Kd.S_drewN | apply Kd.S_drew)); exact HO_6.out) hNb824 hb); have _ := ra (Z.S_elderN (by (with_reducible repeat (first | apply Kd.S_alloc | apply Kd.S_drewN | apply Kd.S_drew)); exact HO_8.out) hNb824 hb); have _ := ra (Z.S_elderN (by (with_reducible repeat (first | apply Kd.S_alloc | apply Kd.S_drewN | apply Kd.S_drew)); exact HO_10.out) hNb824 hb); have _ := ra (Kd.R_below (rq HO_819002) hb); have _ := ra ((Z.S_newN hNb824 (Z.S_newN hNb824 (Z.S_newN hNb824 (Z.S_newN hNb824 ho0 (Kd.S_lt (by (with_reducible repeat (first | apply Kd.S_alloc | apply Kd.S_drewN | apply Kd.S_drew)); exact HO_6.out))) (Kd.S_lt (by (with_reducible repeat (first | apply Kd.S_alloc | apply Kd.S_drewN | apply Kd.S_drew)); exact HO_8.out))) (Kd.S_lt (by (with_reducible repeat (first | apply Kd.S_alloc | apply Kd.S_drewN | apply Kd.S_drew)); exact HO_10.out))) (Kd.R_lt (rq HO_819002)))); have _ := bb (bk BK795) hb; have _ := bb (bk BK818) hb; have _ := bs hb; clear hNb824 HO_6 HO_8 HO_10 HO_819002 BK795 BK818 HB; rename_i HO_6 HO_8 HO_10 HO_819002 HO826 BK795 BK818 HB; (try clear hb); (try clear hb2); (try clear hk); (try clear hi); (try clear ho0); obtain ⟨Ao58, co58, eo58⟩ := Kd.S_slice HO826.out; subst eo58) | ((with_reducible refine gate_callee (f := 14) rfl ?_); refine gl (some 57) Try.func14 #[.slice Ao37 t810.length co37, .slice Ao58 t824.length co58] ?_; (with_reducible refine (laws_eqProbeTubeS.calls kj18 _ _ t810 _ _ t824 true _ ?side1 ?side2 ?side3 ?side4 A49.out).mono ?_); (case side1 => repeat (first | exact (Kd.S_reads' HO_8.out).2.2 | (with_reducible refine Kd.C_alloc ?_ _) | (with_reducible refine Kd.C_drewN ?_ _) | (with_reducible refine Kd.C_drew ?_))); (case side2 => exact (Kd.S_reads' HO_8.out).2.1); (case side3 => repeat (first | exact (Kd.S_reads' HO826.out).2.2 | (with_reducible refine Kd.C_alloc ?_ _) | (with_reducible refine Kd.C_drewN ?_ _) | (with_reducible refine Kd.C_drew ?_))); (case side4 => exact (Kd.S_reads' HO826.out).2.1); rintro e w59 ⟨rfl, hb⟩; refine ⟨_, rfl, ?_⟩; have _ := ra (Kd.S_below (by (with_reducible repeat (first | apply Kd.S_alloc | apply Kd.S_drewN | apply Kd.S_drew)); exact HO_6.out) hb); have _ := ra (Kd.S_below (by (with_reducible repeat (first | apply Kd.S_alloc | apply Kd.S_drewN | apply Kd.S_drew)); exact HO_8.out) hb); have _ := ra (Kd.S_below (by (with_reducible repeat (first | apply Kd.S_alloc | apply Kd.S_drewN | apply Kd.S_drew)); exact HO_10.out) hb); have _ := ra (Kd.R_below (rq HO_819002) hb); have _ := ra (Kd.S_below (by (with_reducible repeat (first | apply Kd.S_alloc | apply Kd.S_drewN | apply Kd.S_drew)); exact HO826.out) hb); have _ := bb (bk BK795) hb; have _ := bb (bk BK818) hb; have _ := bs hb; clear HO_6 HO_8 HO_10 HO_819002 HO826 BK795 BK818 HB; rename_i HO_6 HO_8 HO_10 HO_819002 HO826 BK795 BK818 HB; (try clear hb); (try clear hb2); (try clear hk); (try clear hi)))
        have _ := ra (Kd.S_drew HO_6.out)
        have _ := ra (Kd.S_drew HO_8.out)
        have _ := ra (Kd.S_drew HO_10.out)
        have _ := ra (Kd.R_drew HO_819002.out)
        have _ := ra (Kd.S_drew HO826.out)
        have _ := ra (blk_drew BK795.out)
        have _ := ra (blk_drew BK818.out)
        have _ := ra (below_drew1 HB.out)
        clear HO_6 HO_8 HO_10 HO_819002 HO826 BK795 BK818 HB
        rename_i HO_6 HO_8 HO_10 HO_819002 HO826 BK795 BK818 HB
        refine start_ (n := 5) (S := fun w' => w'.cell? ⟨gb818, 0, none⟩ = some (.bool t813) ∧ w'.cell? ⟨gb818, 1, none⟩ = some (.string t814) ∧ w'.cell? ⟨gb818, 2, none⟩ = some (.slice Ao36 t815.length co36) ∧ w'.cell? ⟨gb795, 0, none⟩ = some (.bool a1_0) ∧ w'.cell? ⟨gb795, 1, none⟩ = some (.string a1_1) ∧ w'.cell? ⟨gb795, 2, none⟩ = some (.slice A1_2 l1_2.length c1_2)) (ds := []) (bl 5 0) (by kernel_rfl) rfl rfl ⟨(blk_cell BK818.out 0).trans rfl, (blk_cell BK818.out 1).trans rfl, (blk_cell BK818.out 2).trans rfl, (blk_cell BK795.out 0).trans rfl, (blk_cell BK795.out 1).trans rfl, (blk_cell BK795.out 2).trans rfl⟩ (fun hHeld => ?_)
        generalize w59.drew = w60 at HO_6 HO_8 HO_10 HO_819002 HO826 BK795 BK818 HB hHeld ⊢
        refine tk 0 59 (bl 5 1) ?_ hHeld
        refine tk 1 60 (bl 5 3) ?_ hHeld
        refine oe 2 61 (bl 5 7) (fun K hK => ?_)
        refine gs Try.func32 #[.agg #[.bool a1_0, .string a1_1, .slice A1_2 l1_2.length c1_2]] ?_
        with_reducible refine (laws_toProbeEvent.calls kj18 a1_0 a1_1 _ _ l1_2 t828 t829 t830 _ ?side1 ?side2 A51.out).mono ?_
        (case side1 => exact sc HR1_2)
        (case side2 => exact HC1_2.out)
        rintro e w61 ⟨v831, rfl, ho0, hb⟩
        refine ⟨_, rfl, ?_⟩
        have _ := ra (Kd.S_elder' (by (with_reducible repeat (first | apply Kd.S_alloc | apply Kd.S_drewN | apply Kd.S_drew)); exact HO_6.out) (Kd.R_base ho0) hb)
        have _ := ra (Kd.S_elder' (by (with_reducible repeat (first | apply Kd.S_alloc | apply Kd.S_drewN | apply Kd.S_drew)); exact HO_8.out) (Kd.R_base ho0) hb)
        have _ := ra (Kd.S_elder' (by (with_reducible repeat (first | apply Kd.S_alloc | apply Kd.S_drewN | apply Kd.S_drew)); exact HO_10.out) (Kd.R_base ho0) hb)
        have _ := ra (Kd.R_elder' (rq HO_819002) (Kd.R_base ho0) hb)
        have _ := ra (Kd.S_elder' (by (with_reducible repeat (first | apply Kd.S_alloc | apply Kd.S_drewN | apply Kd.S_drew)); exact HO826.out) (Kd.R_base ho0) hb)
        have _ := ra (Kd.R_lower (Kd.R_new' ho0 (Kd.R_lt (rq HO_819002))) (below_size bq))
        have _ := bb (bk BK795) hb
        have _ := bb (bk BK818) hb
        have _ := bs hb
        clear HO_6 HO_8 HO_10 HO_819002 HO826 BK795 BK818 HB
        rename_i HO_6 HO_8 HO_10 HO_819002 HO826 HO832 BK795 BK818 HB
        (try clear hb)
        (try clear hb2)
        (try clear hk)
        (try clear hi)
        (try clear ho0)
        obtain ⟨Ao62, co62, eo62⟩ := Kd.R_slice HO832.out
        (first | subst eo62 | (injection eo62 with f1_ f2_ f3_; have f4_ := f1_.symm; have f5_ := f3_.symm; clear f1_ f2_ f3_; subst f4_; subst f5_))
        refine hK.out _ _ ⟨(blk_cell BK818.out 0).trans rfl, (blk_cell BK818.out 1).trans rfl, (blk_cell BK818.out 2).trans rfl, (blk_cell BK795.out 0).trans rfl, (blk_cell BK795.out 1).trans rfl, (blk_cell BK795.out 2).trans rfl⟩ (fun hHeld => ?_)
        clear hK K
        refine nm 61 ?_
        refine oe 3 62 (bl 5 15) (fun K hK => ?_)
        refine gs Try.func33 #[.agg #[.bool t813, .string t814, .slice Ao36 t815.length co36], .agg #[.bool t828, .string t829, .slice Ao62 t830.length co62]] ?_
        with_reducible refine (laws_eqProbeEvent.calls kj18 t813 t814 _ _ t815 t828 t829 _ _ t830 true _ ?side1 ?side2 ?side3 ?side4 A52.out).mono ?_
        (case side1 => exact sr HO_819002)
        (case side2 => exact (Kd.R_reads' HO_819002.out).2.1)
        (case side3 => exact sr HO832)
        (case side4 => exact (Kd.R_reads' HO832.out).2.1)
        rintro e w63 ⟨rfl, hb⟩
        refine ⟨_, rfl, ?_⟩
        have _ := ra (Kd.S_below (by (with_reducible repeat (first | apply Kd.S_alloc | apply Kd.S_drewN | apply Kd.S_drew)); exact HO_6.out) hb)
        have _ := ra (Kd.S_below (by (with_reducible repeat (first | apply Kd.S_alloc | apply Kd.S_drewN | apply Kd.S_drew)); exact HO_8.out) hb)
        have _ := ra (Kd.S_below (by (with_reducible repeat (first | apply Kd.S_alloc | apply Kd.S_drewN | apply Kd.S_drew)); exact HO_10.out) hb)
        have _ := ra (Kd.R_below (rq HO_819002) hb)
        have _ := ra (Kd.S_below (by (with_reducible repeat (first | apply Kd.S_alloc | apply Kd.S_drewN | apply Kd.S_drew)); exact HO826.out) hb)
        have _ := ra (Kd.R_below (rq HO832) hb)
        have _ := bb (bk BK795) hb
        have _ := bb (bk BK818) hb
        have _ := bs hb
        clear HO_6 HO_8 HO_10 HO_819002 HO826 HO832 BK795 BK818 HB
        rename_i HO_6 HO_8 HO_10 HO_819002 HO826 HO832 BK795 BK818 HB
        (try clear hb)
        (try clear hb2)
        (try clear hk)
        (try clear hi)
        refine hK.out _ _ ⟨(blk_cell BK818.out 0).trans rfl, (blk_cell BK818.out 1).trans rfl, (blk_cell BK818.out 2).trans rfl, (blk_cell BK795.out 0).trans rfl, (blk_cell BK795.out 1).trans rfl, (blk_cell BK795.out 2).trans rfl⟩ (fun hHeld => ?_)
        clear hK K
        refine nm 62 ?_
        refine pu 4 63 (bl 5 31) ?_
        refine done_ (by kernel_rfl) ?_
        go_upto_region 21 with (first | ((with_reducible refine gate_callee (f := 15) rfl ?_); refine gl (some 66) Try.func15 #[.slice Ao37 t810.length co37, .int .i64 1] ?_; (with_reducible refine (laws_markProbeTubeS.calls kj18 _ (.slice Ao37 t810.length co37) t810 1 t834 t835 w _ ?side1 (Z.S_typN HO_8.out GN810.out) A54.out).mono ?_); (case side1 => repeat (first | (with_reducible first | exact HB.out | apply below_alloc | apply pw_below_drewN | apply below_drew1 | refine below_set ?_ GE795.out | refine below_set ?_ GE818.out) | exact HB.out)); rintro e w64 ⟨rfl, hy0, hb, hkp⟩; refine ⟨_, rfl, ?_⟩; have _ := ra (Kd.S_kept (HO_6.out) hkp (fun k_ hk_ hs_ => Nat.not_lt.2 hs_.2.1 (hk_.1.1.1))); have _ := ra (Z.S_reokP hy0); have _ := ra (Z.S_keptN (HO_10.out) hkp (fun k_ hb_ hs_ => Nat.not_lt.2 hb_ (hs_.1.1.1.2.1))); have _ := ra (Z.R_keptA rfl (HO_819002.out) hkp (fun k_ e_ hs_ => (hs_.1.1.1.2.2) e_.symm)); have _ := ra (Z.blk_keptT (bk BK795) hkp (by decide)); have _ := ra (Z.blk_keptT (bk BK818) hkp (by decide)); have _ := ra (Z.S_keptN (HO826.out) hkp (fun k_ hb_ hs_ => Nat.not_lt.2 hb_ (hs_.1.1.2))); have _ := ra (Z.R_keptA rfl (HO832.out) hkp (fun k_ e_ hs_ => (hs_.1.2) e_.symm)); have _ := ra (hb); clear HO_6 HO_8 HO_10 HO_819002 BK795 BK818 HO826 HO832 HB; rename_i HO_6 HO_8 HO_10 HO_819002 BK795 BK818 HO826 HO832 HB; (try clear hb); (try clear hkp); (try clear hy0); have hnb65 := NB818_795.out; have hnc65 := NB795_818.out; have hcz66_0 : w64.cell? ⟨gb818, 0, none⟩ = some (.bool t813) := (blk_cell BK818.out 0).trans rfl; have hcz66_1 : w64.cell? ⟨gb818, 1, none⟩ = some (.string t814) := (blk_cell BK818.out 1).trans rfl; have hcz66_2 : w64.cell? ⟨gb818, 2, none⟩ = some (.slice Ao36 t815.length co36) := (blk_cell BK818.out 2).trans rfl; have hfz66_0 := blk_frozen BK818.out 0; have hfz66_1 := blk_frozen BK818.out 1; have hfz66_2 := blk_frozen BK818.out 2) | ((with_reducible refine gate_callee (f := 34) rfl ?_); refine gl (some 69) Try.func34 #[.agg #[.bool t813, .string t814, .slice Ao36 t815.length co36], .int .i64 t834] ?_; (with_reducible refine (laws_markProbeEvent.calls kj18 t813 t814 (fun k_ => some k_ = (.slice Ao36 t815.length co36 : Value).ownBlock) (.slice Ao36 t815.length co36) t815 t834 t836 t837 w _ ?side1 ?side2 A55.out).mono ?_); (case side1 => repeat (first | (with_reducible first | exact HB.out | apply below_alloc | apply pw_below_drewN | apply below_drew1 | refine below_set ?_ GE795.out | refine below_set ?_ GE818.out) | exact HB.out)); (case side2 => exact Kd.R_tight rfl HO_819002.out); rintro e w67 ⟨rfl, hy0, hb, hkp⟩; refine ⟨_, rfl, ?_⟩; have _ := ra (Kd.S_mono (ok' := fun k_ => k_ < Nb810 ∧ k_ < Nb819 ∧ some k_ ≠ (.slice Ao36 t815.length co36 : Value).ownBlock ∧ k_ < Nb824 ∧ some k_ ≠ (.slice Ao62 t830.length co62 : Value).ownBlock) (Kd.S_keptB (HO_6.out) hkp (fun k_ hk_ hs_ => (hk_.1.1.2.2) hs_)) (fun k_ hk_ => ⟨hk_.1.1.1.1, hk_.1.1.1.2.1, hk_.1.1.1.2.2, hk_.1.1.2, hk_.1.2⟩)); have _ := ra (Kd.S_mono (ok' := fun k_ => some k_ ≠ (v807 : Value).ownBlock ∧ k_ < Nb819 ∧ some k_ ≠ (.slice Ao36 t815.length co36 : Value).ownBlock ∧ k_ < Nb824 ∧ some k_ ≠ (.slice Ao62 t830.length co62 : Value).ownBlock) (Kd.S_keptB (HO_8.out) hkp (fun k_ hk_ hs_ => (hk_.1.1.2.2) hs_)) (fun k_ hk_ => ⟨hk_.1.1.1.1, hk_.1.1.1.2.1, hk_.1.1.1.2.2, hk_.1.1.2, hk_.1.2⟩)); have _ := ra (Kd.S_mono (ok' := fun k_ => some k_ ≠ (v807 : Value).ownBlock ∧ some k_ ≠ (.slice Ao37 t810.length co37 : Value).ownBlock ∧ some k_ ≠ (.slice Ao36 t815.length co36 : Value).ownBlock ∧ k_ < Nb824 ∧ some k_ ≠ (.slice Ao62 t830.length co62 : Value).ownBlock) (Kd.S_keptB (HO_10.out) hkp (fun k_ hk_ hs_ => (hk_.1.1.2.2) hs_)) (fun k_ hk_ => ⟨hk_.1.1.1.1, hk_.1.1.1.2.1, hk_.1.1.1.2.2, hk_.1.1.2, hk_.1.2⟩)); have _ := ra (Kd.R_reok rfl hy0 (fun k_ e_ => HO_819002.out.1 k_ e_)); have _ := ra (blk_kept (bk BK795) hkp (fun hs_ => (fun e_ => (Kd.R_ne HO_819002.out BK795.out (by decide)) e_) hs_)); have _ := ra (blk_kept (bk BK818) hkp (fun hs_ => (fun e_ => (Kd.R_ne HO_819002.out BK818.out (by decide)) e_) hs_)); have _ := ra (Kd.S_mono (ok' := fun k_ => some k_ ≠ (v807 : Value).ownBlock ∧ some k_ ≠ (.slice Ao37 t810.length co37 : Value).ownBlock ∧ some k_ ≠ (v820 : Value).ownBlock ∧ some k_ ≠ (.slice Ao36 t815.length co36 : Value).ownBlock ∧ some k_ ≠ (.slice Ao62 t830.length co62 : Value).ownBlock) (Kd.S_keptB (HO826.out) hkp (fun k_ hk_ hs_ => (hk_.1.2) hs_)) (fun k_ hk_ => ⟨hk_.1.1.1.1.1.2, hk_.1.1.1.1.2, hk_.1.1.1.2, hk_.1.1.2, hk_.1.2⟩)); have _ := ra (Kd.R_mono (ok' := fun k_ => some k_ ≠ (.slice Ao36 t815.length co36 : Value).ownBlock) (Kd.R_keptB (HO832.out) hkp (fun k_ hk_ hs_ => (hk_.2) hs_)) (fun k_ hk_ => hk_.1.2)); have _ := ra (hb); clear HO_6 HO_8 HO_10 HO_819002 BK795 BK818 HO826 HO832 HB; rename_i HO_6 HO_8 HO_10 HO_819002 BK795 BK818 HO826 HO832 HB; (try clear hb); (try clear hkp); (try clear hy0)))
        (try simp only [Act.put, List.setIfInBounds_toArray, List.set_cons_zero, List.set_cons_succ])
        go_cut [82] (fun v82 wc => ∃ (kq : Nat) (x82_55 : Bool), v82 = .bool x82_55 ∧ Aside0 (laws_FnExactProbeHappen.j1 kq l0 t806 t809 t819 x82_55 a1_0 a1_1 l1_2 = some true) ∧ Aside0 (kq ≤ kj18) ∧ Aside0 (Kd.S k40 40 wc Nb806 (fun k_ => k_ < Nb819 ∧ some k_ ≠ ((.slice Ao36 t815.length co36) : Value).ownBlock) v807 t806) ∧ Aside0 (Kd.S k40 40 wc Nb819 (fun k_ => some k_ ≠ (v807 : Value).ownBlock ∧ some k_ ≠ ((.slice Ao36 t815.length co36) : Value).ownBlock) v820 t819) ∧ Aside0 (Kd.R k95 95 wc w.heap.size (fun _ => True) (.slice Ao36 t815.length co36) t837) ∧ Aside0 (wc.heap[gb795]? = some (.cells #[.bool a1_0, .string a1_1, (.slice A1_2 l1_2.length c1_2)] 57 (0, 0))) ∧ Aside0 (wc.heap[gb818]? = some (.cells #[.bool t813, .string t814, (.slice Ao36 t815.length co36)] 54 (0, 0))) ∧ Aside0 (Below w.heap.size w wc))
        case first =>
         have H := HC56.out
         clear HC56
         by_cases c68 : t836 < 0
         ·rw [if_pos c68] at H
          have c68b0 : decide (t836 < 0) = true := decide_eq_true c68
          clear c68
          (first | rw [c68b0] | (simp only [i64_w, i32_w]; rw [c68b0]) | skip)
          have H' := Aside0.mk H
          clear H
          go_wp2
          go_meet
          case rel => exact ⟨_, (true), rs, H', ⟨by have := HJ18.out; first | omega | exact Nat.le_refl _⟩, ⟨by (with_reducible repeat (first | apply Kd.S_alloc | apply Kd.S_drewN | apply Kd.S_drew)); exact Kd.S_mono HO_6.out (fun _ hk => ⟨hk.2.1, hk.2.2.1⟩)⟩, ⟨by (with_reducible repeat (first | apply Kd.S_alloc | apply Kd.S_drewN | apply Kd.S_drew)); exact Kd.S_mono HO_10.out (fun _ hk => ⟨hk.1, hk.2.2.1⟩)⟩, ⟨by (with_reducible repeat (first | apply Kd.R_alloc | apply Kd.R_drewN | apply Kd.R_drew)); exact Kd.R_mono HO_819002.out (fun _ hk => trivial)⟩, ⟨bk BK795⟩, ⟨bk BK818⟩, ⟨bq⟩⟩
         ·rw [if_neg c68] at H
          have c68b0 : decide (t836 < 0) = false := decide_eq_false c68
          clear c68
          (first | rw [c68b0] | (simp only [i64_w, i32_w]; rw [c68b0]) | skip)
          obtain ⟨t838, A69, H⟩ := bo H
          by_cases c70 : t838 = true
          ·subst c70
           replace H := it H rfl
           have H' := Aside0.mk H
           clear H
           obtain ⟨Ao71, co71, eo71⟩ := Kd.S_slice HO_10.out
           subst eo71
           obtain ⟨Ao72, co72, eo72⟩ := Kd.S_slice HO_6.out
           subst eo72
           go_wp2_with (first | (go_at_call 14; (with_reducible refine (laws_eqProbeTubeS.calls kj18 _ _ t819 _ _ t806 true _ ?side1 ?side2 ?side3 ?side4 A69.out).mono ?_); (case side1 => repeat (first | exact (Kd.S_reads' HO_10.out).2.2 | (with_reducible refine Kd.C_alloc ?_ _) | (with_reducible refine Kd.C_drewN ?_ _) | (with_reducible refine Kd.C_drew ?_))); (case side2 => exact (Kd.S_reads' HO_10.out).2.1); (case side3 => repeat (first | exact (Kd.S_reads' HO_6.out).2.2 | (with_reducible refine Kd.C_alloc ?_ _) | (with_reducible refine Kd.C_drewN ?_ _) | (with_reducible refine Kd.C_drew ?_))); (case side4 => exact (Kd.S_reads' HO_6.out).2.1); rintro e w73 ⟨rfl, hb⟩; have _ := ra (Kd.S_below (by (with_reducible repeat (first | apply Kd.S_alloc | apply Kd.S_drewN | apply Kd.S_drew)); exact HO_6.out) hb); have _ := ra (Kd.S_below (by (with_reducible repeat (first | apply Kd.S_alloc | apply Kd.S_drewN | apply Kd.S_drew)); exact HO_8.out) hb); have _ := ra (Kd.S_below (by (with_reducible repeat (first | apply Kd.S_alloc | apply Kd.S_drewN | apply Kd.S_drew)); exact HO_10.out) hb); have _ := ra (Kd.R_below (rq HO_819002) hb); have _ := ra (Kd.S_below (by (with_reducible repeat (first | apply Kd.S_alloc | apply Kd.S_drewN | apply Kd.S_drew)); exact HO826.out) hb); have _ := ra (Kd.R_below (rq HO832) hb); have _ := bb (bk BK795) hb; have _ := bb (bk BK818) hb; have _ := bs hb; clear HO_6 HO_8 HO_10 HO_819002 HO826 HO832 BK795 BK818 HB; rename_i HO_6 HO_8 HO_10 HO_819002 HO826 HO832 BK795 BK818 HB; (try clear hb); (try clear hb2); (try clear hk); (try clear hi)))
           go_meet
           case rel => exact ⟨_, ((t822 != t809)), rs, H', ⟨by have := HJ18.out; first | omega | exact Nat.le_refl _⟩, ⟨by (with_reducible repeat (first | apply Kd.S_alloc | apply Kd.S_drewN | apply Kd.S_drew)); exact Kd.S_mono HO_6.out (fun _ hk => ⟨hk.2.1, hk.2.2.1⟩)⟩, ⟨by (with_reducible repeat (first | apply Kd.S_alloc | apply Kd.S_drewN | apply Kd.S_drew)); exact Kd.S_mono HO_10.out (fun _ hk => ⟨hk.1, hk.2.2.1⟩)⟩, ⟨by (with_reducible repeat (first | apply Kd.R_alloc | apply Kd.R_drewN | apply Kd.R_drew)); exact Kd.R_mono HO_819002.out (fun _ hk => trivial)⟩, ⟨bk BK795⟩, ⟨bk BK818⟩, ⟨bq⟩⟩
          ·replace c70 := Bool.eq_false_iff.mpr c70
           subst c70
           have H1 : (laws_FnExactProbeHappen.j1 kj18 l0 t806 t809 t819 true a1_0 a1_1 l1_2) = some true := by rw [if_neg (show ¬ (false = true) by decide)] at H; exact H
           clear H
           have H := H1
           clear H1
           have H' := Aside0.mk H
           clear H
           obtain ⟨Ao74, co74, eo74⟩ := Kd.S_slice HO_10.out
           subst eo74
           obtain ⟨Ao75, co75, eo75⟩ := Kd.S_slice HO_6.out
           subst eo75
           go_wp2_with (first | (go_at_call 14; (with_reducible refine (laws_eqProbeTubeS.calls kj18 _ _ t819 _ _ t806 false _ ?side1 ?side2 ?side3 ?side4 A69.out).mono ?_); (case side1 => repeat (first | exact (Kd.S_reads' HO_10.out).2.2 | (with_reducible refine Kd.C_alloc ?_ _) | (with_reducible refine Kd.C_drewN ?_ _) | (with_reducible refine Kd.C_drew ?_))); (case side2 => exact (Kd.S_reads' HO_10.out).2.1); (case side3 => repeat (first | exact (Kd.S_reads' HO_6.out).2.2 | (with_reducible refine Kd.C_alloc ?_ _) | (with_reducible refine Kd.C_drewN ?_ _) | (with_reducible refine Kd.C_drew ?_))); (case side4 => exact (Kd.S_reads' HO_6.out).2.1); rintro e w76 ⟨rfl, hb⟩; have _ := ra (Kd.S_below (by (with_reducible repeat (first | apply Kd.S_alloc | apply Kd.S_drewN | apply Kd.S_drew)); exact HO_6.out) hb); have _ := ra (Kd.S_below (by (with_reducible repeat (first | apply Kd.S_alloc | apply Kd.S_drewN | apply Kd.S_drew)); exact HO_8.out) hb); have _ := ra (Kd.S_below (by (with_reducible repeat (first | apply Kd.S_alloc | apply Kd.S_drewN | apply Kd.S_drew)); exact HO_10.out) hb); have _ := ra (Kd.R_below (rq HO_819002) hb); have _ := ra (Kd.S_below (by (with_reducible repeat (first | apply Kd.S_alloc | apply Kd.S_drewN | apply Kd.S_drew)); exact HO826.out) hb); have _ := ra (Kd.R_below (rq HO832) hb); have _ := bb (bk BK795) hb; have _ := bb (bk BK818) hb; have _ := bs hb; clear HO_6 HO_8 HO_10 HO_819002 HO826 HO832 BK795 BK818 HB; rename_i HO_6 HO_8 HO_10 HO_819002 HO826 HO832 BK795 BK818 HB; (try clear hb); (try clear hb2); (try clear hk); (try clear hi)))
           go_meet
           case rel => exact ⟨_, (true), rs, H', ⟨by have := HJ18.out; first | omega | exact Nat.le_refl _⟩, ⟨by (with_reducible repeat (first | apply Kd.S_alloc | apply Kd.S_drewN | apply Kd.S_drew)); exact Kd.S_mono HO_6.out (fun _ hk => ⟨hk.2.1, hk.2.2.1⟩)⟩, ⟨by (with_reducible repeat (first | apply Kd.S_alloc | apply Kd.S_drewN | apply Kd.S_drew)); exact Kd.S_mono HO_10.out (fun _ hk => ⟨hk.1, hk.2.2.1⟩)⟩, ⟨by (with_reducible repeat (first | apply Kd.R_alloc | apply Kd.R_drewN | apply Kd.R_drew)); exact Kd.R_mono HO_819002.out (fun _ hk => trivial)⟩, ⟨bk BK795⟩, ⟨bk BK818⟩, ⟨bq⟩⟩
        case rest =>
         clear HC56
         try clear c4
         try clear c4b0
         try clear c8
         try clear c8b0
         try clear c40
         try clear c47
         try clear c50
         try clear c53
         try clear c68
         try clear c68b0
         try clear c70
         try clear hcz11_0
         try clear hcz11_1
         try clear hcz11_2
         try clear hcz22_0
         try clear hcz22_1
         try clear hcz22_2
         try clear hcz31_0
         try clear hcz31_1
         try clear hcz31_2
         try clear hcz35_0
         try clear hcz35_1
         try clear hcz35_2
         try clear hcz66_0
         try clear hcz66_1
         try clear hcz66_2
         try clear hfz11_0
         try clear hfz11_1
         try clear hfz11_2
         try clear hfz22_0
         try clear hfz22_1
         try clear hfz22_2
         try clear hfz31_0
         try clear hfz31_1
         try clear hfz31_2
         try clear hfz35_0
         try clear hfz35_1
         try clear hfz35_2
         try clear hfz66_0
         try clear hfz66_1
         try clear hfz66_2
         obtain ⟨kq, x82_55, rfl, HA, HJ55, HO_6, HO_10, HO_819002, BK795, BK818, HB⟩ := hcut
         have hl819002_55 := (Kd.R_reads' HO_819002.out).1
         rw [hl819002_55] at HO_819002
         (try simp only [hl819002_55])
         (try simp only [hl819002_55] at BK795)
         (try simp only [hl819002_55] at BK818)
         (try simp only [hl819002_55] at HO_6)
         (try simp only [hl819002_55] at HO_10)
         cases kq with
         | zero => exact absurd HA.out (by simp [laws_FnExactProbeHappen.j1])
         | succ kj55 =>
          have H := HA.out
          clear HA
          simp only [laws_FnExactProbeHappen.j1] at H
          by_cases c77 : x82_55 = true
          ·subst c77
           have H1 : (some false) = some true := by rw [if_pos rfl] at H; exact H
           clear H
           have H := H1
           exact absurd (Option.some.inj H) (by decide)
          ·replace c77 := Bool.eq_false_iff.mpr c77
           subst c77
           have H1 : ((laws_markProbeTubeS.f kj55 t819 1).bind fun bt839 => ((laws_heldProbeTubeS.f kj55 bt839.2 1).bind fun t841 => (if t841 < 0 then (some false) else (if t841 = bt839.1 then ((laws_toProbeTubeS.f kj55 l0).bind fun t842 => ((laws_toProbeEvent.f kj55 a1_0 a1_1 l1_2).bind fun bt845 => ((impl_ProbeHappen.f kj55 t842 bt845.1 bt845.2.1 bt845.2.2).bind fun bt850 => ((laws_eqProbeTubeS.f kj55 bt850.1 t806).bind fun t854 => (if t854 = true then (laws_FnExactProbeHappen.j2 kj55 bt839.2 bt839.1 (bt850.2 != t809)) else (laws_FnExactProbeHappen.j2 kj55 bt839.2 bt839.1 true)))))) else (some false))))) = some true := by rw [if_neg (show ¬ (false = true) by decide)] at H; exact H
           clear H
           have H := H1
           clear H1
           obtain ⟨⟨t839, t840⟩, A78, H⟩ := bo H
           try dsimp only at H
           obtain ⟨t841, A79, H⟩ := bo H
           by_cases c80 : t841 < 0
           ·rw [if_pos c80] at H
            exact absurd (Option.some.inj H) (by decide)
           ·rw [if_neg c80] at H
            have c80b0 : decide (t841 < 0) = false := decide_eq_false c80
            clear c80
            by_cases c84 : t841 = t839
            ·rw [if_pos c84] at H
             have c84b0 : (t841 == t839) = true := beq_iff_eq.mpr c84
             have c84b1 : (t841 != t839) = false := bne_eq_false_iff_eq.mpr c84
             clear c84
             obtain ⟨t842, A85, H⟩ := bo H
             obtain ⟨⟨t845, t846, t847⟩, A86, H⟩ := bo H
             try dsimp only at H
             obtain ⟨⟨t850, t853⟩, A87, H⟩ := bo H
             try dsimp only at H
             have HC88 := Aside0.mk H
             clear H
             obtain ⟨Ao89, co89, eo89⟩ := Kd.S_slice HO_10.out
             subst eo89
             try go_wp2_with (first | ((with_reducible refine gate_callee (f := 15) rfl ?_); refine gl (some 85) Try.func15 #[.slice Ao89 t819.length co89, .int .i64 1] ?_; (with_reducible refine (laws_markProbeTubeS.calls kj55 _ (.slice Ao89 t819.length co89) t819 1 t839 t840 w _ ?side1 (Z.S_typN HO_10.out GN819.out) A78.out).mono ?_); (case side1 => repeat (first | (with_reducible first | exact HB.out | apply below_alloc | apply pw_below_drewN | apply below_drew1 | refine below_set ?_ GE795.out | refine below_set ?_ GE818.out) | exact HB.out)); rintro e w90 ⟨rfl, hy0, hb, hkp⟩; refine ⟨_, rfl, ?_⟩; have _ := ra (Kd.S_kept (HO_6.out) hkp (fun k_ hk_ hs_ => Nat.not_lt.2 hs_.2.1 (hk_.1))); have _ := ra (Z.S_reokP hy0); have _ := ra (Z.R_keptA rfl (HO_819002.out) hkp (fun k_ e_ hs_ => (hs_.1.2) e_.symm)); have _ := ra (Z.blk_keptT (bk BK795) hkp (by decide)); have _ := ra (Z.blk_keptT (bk BK818) hkp (by decide)); have _ := ra (hb); clear HO_6 HO_10 HO_819002 BK795 BK818 HB; rename_i HO_6 HO_10 HO_819002 BK795 BK818 HB; (try clear hb); (try clear hkp); (try clear hy0)) | ((with_reducible refine gate_callee (f := 35) rfl ?_); refine goesL_ (some 88) rfl rfl Try.func35 (by kernel_rfl) rfl #[.slice Ao89 t840.length co89, .int .i64 1] rfl (by (try simp only [List.map_toArray, List.map_cons, List.map_nil]); first | done | (rw [show t840.length = t819.length from (Kd.S_reads' HO_10.out).1.symm] <;> rfl) | rfl | (simp only [List.length_drop, List.length_take]; rfl)) ?_; (with_reducible refine (laws_heldProbeTubeS.calls kj55 _ _ t840 1 t841 _ ?side1 ?side2 A79.out).mono ?_); (case side1 => repeat (first | exact (Kd.S_reads' HO_10.out).2.2 | (with_reducible refine Kd.C_alloc ?_ _) | (with_reducible refine Kd.C_drewN ?_ _) | (with_reducible refine Kd.C_drew ?_))); (case side2 => rw [show t840.length = t819.length from (Kd.S_reads' HO_10.out).1.symm]; exact (Kd.S_reads' HO_10.out).2.1); rintro e w91 ⟨rfl, hb⟩; refine ⟨_, rfl, ?_⟩; have _ := ra (Kd.S_below (by (with_reducible repeat (first | apply Kd.S_alloc | apply Kd.S_drewN | apply Kd.S_drew)); exact HO_6.out) hb); have _ := ra (Kd.S_below (by (with_reducible repeat (first | apply Kd.S_alloc | apply Kd.S_drewN | apply Kd.S_drew)); exact HO_10.out) hb); have _ := ra (Kd.R_below (rq HO_819002) hb); have _ := bb (bk BK795) hb; have _ := bb (bk BK818) hb; have _ := bs hb; clear HO_6 HO_10 HO_819002 BK795 BK818 HB; rename_i HO_6 HO_10 HO_819002 BK795 BK818 HB; (try clear hb); (try clear hb2); (try clear hk); (try clear hi)))
             have _ := ra (Kd.S_drew HO_6.out)
             have _ := ra (Kd.S_drew HO_10.out)
             have _ := ra (Kd.R_drew HO_819002.out)
             have _ := ra (blk_drew BK795.out)
             have _ := ra (blk_drew BK818.out)
             have _ := ra (below_drew1 HB.out)
             clear HO_6 HO_10 HO_819002 BK795 BK818 HB
             rename_i HO_6 HO_10 HO_819002 BK795 BK818 HB
             refine start_ (n := 10) (S := fun w' => w'.cell? ⟨gb795, 0, none⟩ = some (.bool a1_0) ∧ w'.cell? ⟨gb795, 1, none⟩ = some (.string a1_1) ∧ w'.cell? ⟨gb795, 2, none⟩ = some (.slice A1_2 l1_2.length c1_2)) (ds := []) (bl 10 0) (by kernel_rfl) rfl rfl ⟨(blk_cell BK795.out 0).trans rfl, (blk_cell BK795.out 1).trans rfl, (blk_cell BK795.out 2).trans rfl⟩ (fun hHeld => ?_); refine with_tabW laws_FnExactProbeHappen.tab31 laws_FnExactProbeHappen.bits31 (fun HT_ HW_ => ?_)
             generalize w91.drew = w92 at HO_6 HO_10 HO_819002 BK795 BK818 HB hHeld ⊢
             refine pu 0 95 (bl 10 1) ?_
             refine tk 2 97 (bl 10 5) ?_ hHeld
             refine oe 1 96 (bl 10 7) (fun K hK => ?_)
             refine gs Try.func11 #[.slice A0 l0.length c0] ?_
             with_reducible refine (laws_toProbeTubeS.calls kj55 _ _ l0 t842 _ ?side1 ?side2 A85.out).mono ?_
             (case side1 => exact sc HR0)
             (case side2 => exact HC0.out)
             rintro e w93 ⟨v843, rfl, ho0, hb⟩
             refine ⟨_, rfl, ?_⟩; obtain ⟨Nb842, hNb842, ho0⟩ := Z.S_ghost ho0; have GN842 := ra (show w.heap.size ≤ Nb842 from by rw [hNb842]; exact below_size (by repeat (first | (with_reducible first | exact HB.out | apply below_alloc | apply pw_below_drewN | apply below_drew1 | refine below_set ?_ (Aside0.out (by assumption))) | exact HB.out)))
             have _ := ra (Z.S_elderN (by (with_reducible repeat (first | apply Kd.S_alloc | apply Kd.S_drewN | apply Kd.S_drew)); exact HO_6.out) hNb842 hb)
             have _ := ra (Z.S_elderN (by (with_reducible repeat (first | apply Kd.S_alloc | apply Kd.S_drewN | apply Kd.S_drew)); exact HO_10.out) hNb842 hb)
             have _ := ra (Kd.R_below (rq HO_819002) hb)
             have _ := ra ((Z.S_newN hNb842 (Z.S_newN hNb842 (Z.S_newN hNb842 ho0 (Kd.S_lt (by (with_reducible repeat (first | apply Kd.S_alloc | apply Kd.S_drewN | apply Kd.S_drew)); exact HO_6.out))) (Kd.S_lt (by (with_reducible repeat (first | apply Kd.S_alloc | apply Kd.S_drewN | apply Kd.S_drew)); exact HO_10.out))) (Kd.R_lt (rq HO_819002))))
             have _ := bb (bk BK795) hb
             have _ := bb (bk BK818) hb
             have _ := bs hb
             clear hNb842 HO_6 HO_10 HO_819002 BK795 BK818 HB
             rename_i HO_6 HO_10 HO_819002 HO844 BK795 BK818 HB
             (try clear hb)
             (try clear hb2)
             (try clear hk)
             (try clear hi)
             (try clear ho0)
             refine hK.out _ _ ⟨(blk_cell BK795.out 0).trans rfl, (blk_cell BK795.out 1).trans rfl, (blk_cell BK795.out 2).trans rfl⟩ (fun hHeld => ?_)
             clear hK K
             refine nm 96 ?_
             refine oe 3 98 (bl 10 15) (fun K hK => ?_)
             refine gs Try.func32 #[.agg #[.bool a1_0, .string a1_1, .slice A1_2 l1_2.length c1_2]] ?_
             with_reducible refine (laws_toProbeEvent.calls kj55 a1_0 a1_1 _ _ l1_2 t845 t846 t847 _ ?side1 ?side2 A86.out).mono ?_
             (case side1 => exact sc HR1_2)
             (case side2 => exact HC1_2.out)
             rintro e w94 ⟨v848, rfl, ho0, hb⟩
             refine ⟨_, rfl, ?_⟩
             have _ := ra (Kd.S_elder' (by (with_reducible repeat (first | apply Kd.S_alloc | apply Kd.S_drewN | apply Kd.S_drew)); exact HO_6.out) (Kd.R_base ho0) hb)
             have _ := ra (Kd.S_elder' (by (with_reducible repeat (first | apply Kd.S_alloc | apply Kd.S_drewN | apply Kd.S_drew)); exact HO_10.out) (Kd.R_base ho0) hb)
             have _ := ra (Kd.R_elder' (rq HO_819002) (Kd.R_base ho0) hb)
             have _ := ra (Kd.S_elder' (by (with_reducible repeat (first | apply Kd.S_alloc | apply Kd.S_drewN | apply Kd.S_drew)); exact HO844.out) (Kd.R_base ho0) hb)
             have _ := ra (Kd.R_lower (Kd.R_new' ho0 (Kd.R_lt (rq HO_819002))) (below_size bq))
             have _ := bb (bk BK795) hb
             have _ := bb (bk BK818) hb
             have _ := bs hb
             clear HO_6 HO_10 HO_819002 HO844 BK795 BK818 HB
             rename_i HO_6 HO_10 HO_819002 HO844 HO849 BK795 BK818 HB
             (try clear hb)
             (try clear hb2)
             (try clear hk)
             (try clear hi)
             (try clear ho0)
             obtain ⟨Ao95, co95, eo95⟩ := Kd.S_slice HO844.out
             (first | subst eo95 | (injection eo95 with f1_ f2_ f3_; have f4_ := f1_.symm; have f5_ := f3_.symm; clear f1_ f2_ f3_; subst f4_; subst f5_))
             obtain ⟨Ao96, co96, eo96⟩ := Kd.R_slice HO849.out
             (first | subst eo96 | (injection eo96 with f1_ f2_ f3_; have f4_ := f1_.symm; have f5_ := f3_.symm; clear f1_ f2_ f3_; subst f4_; subst f5_))
             refine hK.out _ _ ⟨(blk_cell BK795.out 0).trans rfl, (blk_cell BK795.out 1).trans rfl, (blk_cell BK795.out 2).trans rfl⟩ (fun hHeld => ?_)
             clear hK K
             refine nm 98 ?_
             refine oe 4 99 (bl 10 31) (fun K hK => ?_)
             refine gs Try.func29 #[.slice Ao95 t842.length co95, .agg #[.bool t845, .string t846, .slice Ao96 t847.length co96]] ?_
             with_reducible refine (impl_ProbeHappen.calls kj55 _ _ t842 t845 t846 _ _ t847 t850 t853 _ ?side1 ?side2 ?side3 ?side4 A87.out).mono ?_
             (case side1 => repeat (first | exact (Kd.S_reads' HO844.out).2.2 | (with_reducible refine Kd.C_alloc ?_ _) | (with_reducible refine Kd.C_drewN ?_ _) | (with_reducible refine Kd.C_drew ?_)))
             (case side2 => exact (Kd.S_reads' HO844.out).2.1)
             (case side3 => exact sr HO849)
             (case side4 => exact (Kd.R_reads' HO849.out).2.1)
             rintro e w97 ⟨v851, rfl, ho0, hb⟩
             refine ⟨_, rfl, ?_⟩; obtain ⟨Nb850, hNb850, ho0⟩ := Z.S_ghost ho0; have GN850 := ra (show w.heap.size ≤ Nb850 from by rw [hNb850]; exact below_size (by repeat (first | (with_reducible first | exact HB.out | apply below_alloc | apply pw_below_drewN | apply below_drew1 | refine below_set ?_ (Aside0.out (by assumption))) | exact HB.out)))
             have _ := ra (Z.S_elderN (by (with_reducible repeat (first | apply Kd.S_alloc | apply Kd.S_drewN | apply Kd.S_drew)); exact HO_6.out) hNb850 hb)
             have _ := ra (Z.S_elderN (by (with_reducible repeat (first | apply Kd.S_alloc | apply Kd.S_drewN | apply Kd.S_drew)); exact HO_10.out) hNb850 hb)
             have _ := ra (Kd.R_below (rq HO_819002) hb)
             have _ := ra (Z.S_elderN (by (with_reducible repeat (first | apply Kd.S_alloc | apply Kd.S_drewN | apply Kd.S_drew)); exact HO844.out) hNb850 hb)
             have _ := ra (Kd.R_below (rq HO849) hb)
             have _ := ra ((Z.S_newN hNb850 (Z.S_newN hNb850 (Z.S_newN hNb850 (Z.S_newN hNb850 (Z.S_newN hNb850 ho0 (Kd.S_lt (by (with_reducible repeat (first | apply Kd.S_alloc | apply Kd.S_drewN | apply Kd.S_drew)); exact HO_6.out))) (Kd.S_lt (by (with_reducible repeat (first | apply Kd.S_alloc | apply Kd.S_drewN | apply Kd.S_drew)); exact HO_10.out))) (Kd.R_lt (rq HO_819002))) (Kd.S_lt (by (with_reducible repeat (first | apply Kd.S_alloc | apply Kd.S_drewN | apply Kd.S_drew)); exact HO844.out))) (Kd.R_lt (rq HO849))))
             have _ := bb (bk BK795) hb
             have _ := bb (bk BK818) hb
             have _ := bs hb
             clear hNb850 HO_6 HO_10 HO_819002 HO844 HO849 BK795 BK818 HB
             rename_i HO_6 HO_10 HO_819002 HO844 HO849 HO852 BK795 BK818 HB
             (try clear hb)
             (try clear hb2)
             (try clear hk)
             (try clear hi)
             (try clear ho0)
             refine hK.out _ _ ⟨(blk_cell BK795.out 0).trans rfl, (blk_cell BK795.out 1).trans rfl, (blk_cell BK795.out 2).trans rfl⟩ (fun hHeld => ?_)
             clear hK K
             refine nm 99 ?_
             refine pu 5 94 (bl 10 63) ?_
             refine pu 6 100 (bl 10 127) ?_
             refine pu 7 101 (bl 10 255) ?_
             refine pu 8 15 (bl 10 511) ?_
             refine pu 9 16 (bl 10 1023) ?_
             refine done_ (done_of HT_.out (by kernel_rfl)) ?_
             go_upto_region 32 with (fail)
             go_cut [110] (fun v110 wc => ∃ (kq : Nat) (x110_87 : Bool), v110 = .bool x110_87 ∧ Aside0 (laws_FnExactProbeHappen.j2 kq t840 t839 x110_87 = some true) ∧ Aside0 (kq ≤ kj55) ∧ Aside0 (Kd.S k40 40 wc w.heap.size (fun k_ => some k_ ≠ ((.slice Ao36 t837.length co36) : Value).ownBlock) (.slice Ao89 t819.length co89) t840) ∧ Aside0 (Kd.R k95 95 wc w.heap.size (fun _ => True) (.slice Ao36 t837.length co36) t837) ∧ Aside0 (wc.heap[gb795]? = some (.cells #[.bool a1_0, .string a1_1, (.slice A1_2 l1_2.length c1_2)] 57 (0, 0))) ∧ Aside0 (wc.heap[gb818]? = some (.cells #[.bool t813, .string t814, (.slice Ao36 t837.length co36)] 54 (0, 0))) ∧ Aside0 (Below w.heap.size w wc))
             case first =>
              have H := HC88.out
              clear HC88
              obtain ⟨t854, A98, H⟩ := bo H
              by_cases c99 : t854 = true
              ·subst c99
               replace H := it H rfl
               have H' := Aside0.mk H
               clear H
               obtain ⟨Ao100, co100, eo100⟩ := Kd.S_slice HO852.out
               subst eo100
               obtain ⟨Ao101, co101, eo101⟩ := Kd.S_slice HO_6.out
               subst eo101
               go_wp2_with (first | ((with_reducible refine gate_callee (f := 14) rfl ?_); refine gl (some 104) Try.func14 #[.slice Ao100 t850.length co100, .slice Ao101 t806.length co101] ?_; (with_reducible refine (laws_eqProbeTubeS.calls kj55 _ _ t850 _ _ t806 true _ ?side1 ?side2 ?side3 ?side4 A98.out).mono ?_); (case side1 => repeat (first | exact (Kd.S_reads' HO852.out).2.2 | (with_reducible refine Kd.C_alloc ?_ _) | (with_reducible refine Kd.C_drewN ?_ _) | (with_reducible refine Kd.C_drew ?_))); (case side2 => exact (Kd.S_reads' HO852.out).2.1); (case side3 => repeat (first | exact (Kd.S_reads' HO_6.out).2.2 | (with_reducible refine Kd.C_alloc ?_ _) | (with_reducible refine Kd.C_drewN ?_ _) | (with_reducible refine Kd.C_drew ?_))); (case side4 => exact (Kd.S_reads' HO_6.out).2.1); rintro e w102 ⟨rfl, hb⟩; refine ⟨_, rfl, ?_⟩; have _ := ra (Kd.S_below (by (with_reducible repeat (first | apply Kd.S_alloc | apply Kd.S_drewN | apply Kd.S_drew)); exact HO_6.out) hb); have _ := ra (Kd.S_below (by (with_reducible repeat (first | apply Kd.S_alloc | apply Kd.S_drewN | apply Kd.S_drew)); exact HO_10.out) hb); have _ := ra (Kd.R_below (rq HO_819002) hb); have _ := ra (Kd.S_below (by (with_reducible repeat (first | apply Kd.S_alloc | apply Kd.S_drewN | apply Kd.S_drew)); exact HO844.out) hb); have _ := ra (Kd.R_below (rq HO849) hb); have _ := ra (Kd.S_below (by (with_reducible repeat (first | apply Kd.S_alloc | apply Kd.S_drewN | apply Kd.S_drew)); exact HO852.out) hb); have _ := bb (bk BK795) hb; have _ := bb (bk BK818) hb; have _ := bs hb; clear HO_6 HO_10 HO_819002 HO844 HO849 HO852 BK795 BK818 HB; rename_i HO_6 HO_10 HO_819002 HO844 HO849 HO852 BK795 BK818 HB; (try clear hb); (try clear hb2); (try clear hk); (try clear hi)))
               go_meet
               case rel => exact ⟨_, ((t853 != t809)), rs, H', ⟨by have := HJ18.out; have := HJ55.out; first | omega | exact Nat.le_refl _⟩, ⟨by (try simp only [hl819002_55]); (with_reducible repeat (first | apply Kd.S_alloc | apply Kd.S_drewN | apply Kd.S_drew)); exact Kd.S_mono HO_10.out (fun _ hk => hk.1.1.1.2)⟩, ⟨by (try simp only [hl819002_55]); (with_reducible repeat (first | apply Kd.R_alloc | apply Kd.R_drewN | apply Kd.R_drew)); exact Kd.R_mono HO_819002.out (fun _ hk => trivial)⟩, ⟨by (try simp only [hl819002_55]); (with_reducible repeat (first | refine blk_drewN ?_ _ | refine blk_drew ?_ | refine blk_alloc ?_ _)); exact BK795.out⟩, ⟨by (try simp only [hl819002_55]); (with_reducible repeat (first | refine blk_drewN ?_ _ | refine blk_drew ?_ | refine blk_alloc ?_ _)); exact BK818.out⟩, ⟨bq⟩⟩
              ·replace c99 := Bool.eq_false_iff.mpr c99
               subst c99
               have H1 : (laws_FnExactProbeHappen.j2 kj55 t840 t839 true) = some true := by rw [if_neg (show ¬ (false = true) by decide)] at H; exact H
               clear H
               have H := H1
               clear H1
               have H' := Aside0.mk H
               clear H
               obtain ⟨Ao103, co103, eo103⟩ := Kd.S_slice HO852.out
               subst eo103
               obtain ⟨Ao104, co104, eo104⟩ := Kd.S_slice HO_6.out
               subst eo104
               go_wp2_with (first | ((with_reducible refine gate_callee (f := 14) rfl ?_); refine gl (some 104) Try.func14 #[.slice Ao103 t850.length co103, .slice Ao104 t806.length co104] ?_; (with_reducible refine (laws_eqProbeTubeS.calls kj55 _ _ t850 _ _ t806 false _ ?side1 ?side2 ?side3 ?side4 A98.out).mono ?_); (case side1 => repeat (first | exact (Kd.S_reads' HO852.out).2.2 | (with_reducible refine Kd.C_alloc ?_ _) | (with_reducible refine Kd.C_drewN ?_ _) | (with_reducible refine Kd.C_drew ?_))); (case side2 => exact (Kd.S_reads' HO852.out).2.1); (case side3 => repeat (first | exact (Kd.S_reads' HO_6.out).2.2 | (with_reducible refine Kd.C_alloc ?_ _) | (with_reducible refine Kd.C_drewN ?_ _) | (with_reducible refine Kd.C_drew ?_))); (case side4 => exact (Kd.S_reads' HO_6.out).2.1); rintro e w105 ⟨rfl, hb⟩; refine ⟨_, rfl, ?_⟩; have _ := ra (Kd.S_below (by (with_reducible repeat (first | apply Kd.S_alloc | apply Kd.S_drewN | apply Kd.S_drew)); exact HO_6.out) hb); have _ := ra (Kd.S_below (by (with_reducible repeat (first | apply Kd.S_alloc | apply Kd.S_drewN | apply Kd.S_drew)); exact HO_10.out) hb); have _ := ra (Kd.R_below (rq HO_819002) hb); have _ := ra (Kd.S_below (by (with_reducible repeat (first | apply Kd.S_alloc | apply Kd.S_drewN | apply Kd.S_drew)); exact HO844.out) hb); have _ := ra (Kd.R_below (rq HO849) hb); have _ := ra (Kd.S_below (by (with_reducible repeat (first | apply Kd.S_alloc | apply Kd.S_drewN | apply Kd.S_drew)); exact HO852.out) hb); have _ := bb (bk BK795) hb; have _ := bb (bk BK818) hb; have _ := bs hb; clear HO_6 HO_10 HO_819002 HO844 HO849 HO852 BK795 BK818 HB; rename_i HO_6 HO_10 HO_819002 HO844 HO849 HO852 BK795 BK818 HB; (try clear hb); (try clear hb2); (try clear hk); (try clear hi)))
               go_meet
               case rel => exact ⟨_, (true), rs, H', ⟨by have := HJ18.out; have := HJ55.out; first | omega | exact Nat.le_refl _⟩, ⟨by (try simp only [hl819002_55]); (with_reducible repeat (first | apply Kd.S_alloc | apply Kd.S_drewN | apply Kd.S_drew)); exact Kd.S_mono HO_10.out (fun _ hk => hk.1.1.1.2)⟩, ⟨by (try simp only [hl819002_55]); (with_reducible repeat (first | apply Kd.R_alloc | apply Kd.R_drewN | apply Kd.R_drew)); exact Kd.R_mono HO_819002.out (fun _ hk => trivial)⟩, ⟨by (try simp only [hl819002_55]); (with_reducible repeat (first | refine blk_drewN ?_ _ | refine blk_drew ?_ | refine blk_alloc ?_ _)); exact BK795.out⟩, ⟨by (try simp only [hl819002_55]); (with_reducible repeat (first | refine blk_drewN ?_ _ | refine blk_drew ?_ | refine blk_alloc ?_ _)); exact BK818.out⟩, ⟨bq⟩⟩
             case rest =>
              clear HC88
              try clear c4
              try clear c4b0
              try clear c8
              try clear c8b0
              try clear c40
              try clear c47
              try clear c50
              try clear c53
              try clear c68
              try clear c68b0
              try clear c70
              try clear c77
              try clear c80
              try clear c80b0
              try clear c84
              try clear c84b0
              try clear c84b1
              try clear c99
              try clear hcz11_0
              try clear hcz11_1
              try clear hcz11_2
              try clear hcz22_0
              try clear hcz22_1
              try clear hcz22_2
              try clear hcz31_0
              try clear hcz31_1
              try clear hcz31_2
              try clear hcz35_0
              try clear hcz35_1
              try clear hcz35_2
              try clear hcz66_0
              try clear hcz66_1
              try clear hcz66_2
              try clear hfz11_0
              try clear hfz11_1
              try clear hfz11_2
              try clear hfz22_0
              try clear hfz22_1
              try clear hfz22_2
              try clear hfz31_0
              try clear hfz31_1
              try clear hfz31_2
              try clear hfz35_0
              try clear hfz35_1
              try clear hfz35_2
              try clear hfz66_0
              try clear hfz66_1
              try clear hfz66_2
              obtain ⟨kq, x110_87, rfl, HA, HJ87, HO_10, HO_819002, BK795, BK818, HB⟩ := hcut
              have hl10_87 := (Kd.S_reads' HO_10.out).1
              rw [hl10_87] at HO_10
              (try simp only [hl10_87])
              (try simp only [hl10_87] at BK795)
              (try simp only [hl10_87] at BK818)
              (try simp only [hl10_87] at HO_819002)
              cases kq with
              | zero => exact absurd HA.out (by simp [laws_FnExactProbeHappen.j2])
              | succ kj87 =>
               have H := HA.out
               clear HA
               simp only [laws_FnExactProbeHappen.j2] at H
               by_cases c106 : x110_87 = true
               ·subst c106
                have H1 : (some false) = some true := by rw [if_pos rfl] at H; exact H
                clear H
                have H := H1
                exact absurd (Option.some.inj H) (by decide)
               ·replace c106 := Bool.eq_false_iff.mpr c106
                subst c106
                have H1 : ((laws_heldProbeTubeS.f kj87 t840 1).bind fun t855 => (if t855 < 0 then (some false) else (if t855 = t839 then (some true) else (some false)))) = some true := by rw [if_neg (show ¬ (false = true) by decide)] at H; exact H
                clear H
                have H := H1
                clear H1
                obtain ⟨t855, A107, H⟩ := bo H
                by_cases c108 : t855 < 0
                ·rw [if_pos c108] at H
                 exact absurd (Option.some.inj H) (by decide)
                ·rw [if_neg c108] at H
                 have c108b0 : decide (t855 < 0) = false := decide_eq_false c108
                 clear c108
                 by_cases c110 : t855 = t839
                 ·rw [if_pos c110] at H
                  have c110b0 : (t855 == t839) = true := beq_iff_eq.mpr c110
                  have c110b1 : (t855 != t839) = false := bne_eq_false_iff_eq.mpr c110
                  clear c110 H
                  go_wp2_with (first | ((with_reducible refine gate_callee (f := 35) rfl ?_); refine gl (some 113) Try.func35 #[.slice Ao89 t840.length co89, .int .i64 1] ?_; (with_reducible refine (laws_heldProbeTubeS.calls kj87 _ _ t840 1 t855 _ ?side1 ?side2 A107.out).mono ?_); (case side1 => repeat (first | exact (Kd.S_reads' HO_10.out).2.2 | (with_reducible refine Kd.C_alloc ?_ _) | (with_reducible refine Kd.C_drewN ?_ _) | (with_reducible refine Kd.C_drew ?_))); (case side2 => exact (Kd.S_reads' HO_10.out).2.1); rintro e w111 ⟨rfl, hb⟩; refine ⟨_, rfl, ?_⟩; have _ := ra (Kd.S_below (by (with_reducible repeat (first | apply Kd.S_alloc | apply Kd.S_drewN | apply Kd.S_drew)); exact HO_10.out) hb); have _ := ra (Kd.R_below (rq HO_819002) hb); have _ := bb (bk BK795) hb; have _ := bb (bk BK818) hb; have _ := bs hb; clear HO_10 HO_819002 BK795 BK818 HB; rename_i HO_10 HO_819002 BK795 BK818 HB; (try clear hb); (try clear hb2); (try clear hk); (try clear hi)))
                  go_ret
                  exact ⟨re, bq⟩
                 ·rw [if_neg c110] at H
                  exact absurd (Option.some.inj H) (by decide)
            ·rw [if_neg c84] at H
             exact absurd (Option.some.inj H) (by decide)
       ·replace c53 := Bool.eq_false_iff.mpr c53
        subst c53
        have H1 : (some false) = some true := by rw [if_neg (show ¬ (false = true) by decide)] at H; exact H
        clear H
        have H := H1
        exact absurd (Option.some.inj H) (by decide)
      ·replace c50 := Bool.eq_false_iff.mpr c50
       subst c50
       have H1 : (some false) = some true := by rw [if_neg (show ¬ (false = true) by decide)] at H; exact H
       clear H
       have H := H1
       exact absurd (Option.some.inj H) (by decide)
end Go.Proofs.Ytdbomnhdpniigaa.PA
