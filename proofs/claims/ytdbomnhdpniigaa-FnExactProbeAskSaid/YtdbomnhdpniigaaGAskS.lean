/- Contracts of the functions spec_ProbeClose, spec_l5Box, spec_l5Sooner, spec_l5First, spec_ProbeAsk. (Began as a print of the kit's tool.) -/
import Derived.Test.YtdbomnhdpniigaaPAd
import Derived.Test.YtdbomnhdpniigaaCx
import Derived.Test.YtdbomnhdpniigaaCy
import Derived.Test.YtdbomnhdpniigaaGBase
import Derived.Test.YtdbomnhdpniigaaGMeetS
import Derived.Test.YtdbomnhdpniigaaGNames
namespace Go.Proofs.Ytdbomnhdpniigaa.PA
open Go.RowKit Go.Proofs.YtdbomnhdpniigaaW.PrintWords Go.Proofs.YtdbomnhdpniigaaW.PrintLast Go.Proofs.YtdbomnhdpniigaaW.PrintMore Go.Proofs.Ytdbomnhdpniigaa.Z
attribute [local go_sem] max2_int min2_int max_two min_two max_three min_three max_four min_four
set_option linter.unusedVariables false
set_option linter.unusedSimpArgs false
set_option maxHeartbeats 8000000 in
set_option maxRecDepth 100000 in
theorem spec_ProbeClose.calls (k : Nat) (a0_0 : Int) (a0_1 : Int) (a0_2 : Int) (a0_3 : Int) (a0_4 : Int) (a0_5 : Int) (a1_0 : Int) (a1_1 : Int) (a1_2 : Int) (a1_3 : Int) (a1_4 : Int) (a1_5 : Int) (r1 : Int) (r2 : Bool) (w : World) (h : spec_ProbeClose.f k a0_0 a0_1 a0_2 a0_3 a0_4 a0_5 a1_0 a1_1 a1_2 a1_3 a1_4 a1_5 = some (r1, r2)) :
  Calls Try.prog 100 #[.agg #[.int .i64 a0_0, .int .i64 a0_1, .int .i64 a0_2, .int .i64 a0_3, .int .i64 a0_4, .int .i64 a0_5], .agg #[.int .i64 a1_0, .int .i64 a1_1, .int .i64 a1_2, .int .i64 a1_3, .int .i64 a1_4, .int .i64 a1_5]] w fun e w' => e = .returned (.tuple #[.int .i64 r1, .bool r2]) ∧ Below w.heap.size w w' := by
 have hu95 := Try.underlying95
 have HB := ra (Below.refl w.heap.size w)
 have H : ((spec_ProbeBoxOk.f a0_0 a0_1 a0_2 a0_3 a0_4 a0_5).bind fun t293 => (if t293 = true then ((spec_ProbeBoxOk.f a1_0 a1_1 a1_2 a1_3 a1_4 a1_5).bind fun t294 => (if t294 = true then ((spec_l1Close.f k a0_0 a0_1 a0_2 a0_3 a0_4 a0_5 a1_0 a1_1 a1_2 a1_3 a1_4 a1_5).bind fun bt295 => (some (bt295.1, bt295.2))) else (some (0, false)))) else (some (0, false)))) = some (r1, r2) := h
 clear h
 obtain ⟨t293, A3, H⟩ := bo H
 by_cases c4 : t293 = true
 ·subst c4
  replace H := it H rfl
  obtain ⟨t294, A5, H⟩ := bo H
  by_cases c6 : t294 = true
  ·subst c6
   replace H := it H rfl
   obtain ⟨⟨t295, t296⟩, A7, H⟩ := bo H
   try dsimp only at H
   simp only [Option.some.injEq, Prod.mk.injEq] at H
   obtain ⟨rfl, rfl⟩ := H
   go_enter Try.func100, Try.ntmps100
   go_wp2_with (first | ((with_reducible refine gate_dst (N := 2) rfl ?_); refine be 2 #[.int .i64 a0_0, .int .i64 a0_1, .int .i64 a0_2, .int .i64 a0_3, .int .i64 a0_4, .int .i64 a0_5] 95 ?_; intro gb291 hg w8 hbox hb; have _ := bs hb; have _ := ra (hbox); have _ := bz (w0 := w) hg; have _ := bz (w0 := w) hg; clear HB; rename_i HB BK291 GW291 GE291; clear hb hbox hg) | ((with_reducible refine gate_dst (N := 3) rfl ?_); refine be 3 #[.int .i64 a1_0, .int .i64 a1_1, .int .i64 a1_2, .int .i64 a1_3, .int .i64 a1_4, .int .i64 a1_5] 95 ?_; intro gb292 hg w9 hbox hb; have _ := bb (bk BK291) hb; have _ := bs hb; have _ := ra (hbox); have _ := bz (w0 := w) hg; have _ := bz (w0 := w) hg; have _ := bn hg (bk BK291); have _ := bm hg (bk BK291); clear BK291 HB; rename_i BK291 HB BK292 GW292 GE292 NB291_292 NB292_291; clear hb hbox hg; have hnb10 := NB291_292.out; have hnc10 := NB292_291.out; obtain ⟨hcz11_0, hcz11_1, hcz11_2, hcz11_3, hcz11_4, hcz11_5, hfz11_0, hfz11_1, hfz11_2, hfz11_3, hfz11_4, hfz11_5⟩ := zc6 BK291) | ((with_reducible refine gate_callee (f := 81) rfl ?_); refine gl (some 7) Try.func81 #[.agg #[.int .i64 a0_0, .int .i64 a0_1, .int .i64 a0_2, .int .i64 a0_3, .int .i64 a0_4, .int .i64 a0_5]] ?_; (with_reducible refine (spec_ProbeBoxOk.calls a0_0 a0_1 a0_2 a0_3 a0_4 a0_5 true _ A3.out).mono ?_); rintro e w12 ⟨rfl, hb⟩; refine ⟨_, rfl, ?_⟩; have _ := bb (bk BK291) hb; have _ := bb (bk BK292) hb; have _ := bs hb; clear BK291 BK292 HB; rename_i BK291 BK292 HB; (try clear hb); (try clear hb2); (try clear hk); (try clear hi); obtain ⟨hcz13_0, hcz13_1, hcz13_2, hcz13_3, hcz13_4, hcz13_5, hfz13_0, hfz13_1, hfz13_2, hfz13_3, hfz13_4, hfz13_5⟩ := zc6 BK292) | (go_at_call 81; (with_reducible refine (spec_ProbeBoxOk.calls a1_0 a1_1 a1_2 a1_3 a1_4 a1_5 true _ A5.out).mono ?_); rintro e w14 ⟨rfl, hb⟩; have _ := bb (bk BK291) hb; have _ := bb (bk BK292) hb; have _ := bs hb; clear BK291 BK292 HB; rename_i BK291 BK292 HB; (try clear hb); (try clear hb2); (try clear hk); (try clear hi); obtain ⟨hcz15_0, hcz15_1, hcz15_2, hcz15_3, hcz15_4, hcz15_5, hfz15_0, hfz15_1, hfz15_2, hfz15_3, hfz15_4, hfz15_5⟩ := zc6 BK291; obtain ⟨hcz16_0, hcz16_1, hcz16_2, hcz16_3, hcz16_4, hcz16_5, hfz16_0, hfz16_1, hfz16_2, hfz16_3, hfz16_4, hfz16_5⟩ := zc6 BK292) | ((with_reducible refine gate_callee (f := 79) rfl ?_); refine gl (some 16) Try.func79 #[.agg #[.int .i64 a0_0, .int .i64 a0_1, .int .i64 a0_2, .int .i64 a0_3, .int .i64 a0_4, .int .i64 a0_5], .agg #[.int .i64 a1_0, .int .i64 a1_1, .int .i64 a1_2, .int .i64 a1_3, .int .i64 a1_4, .int .i64 a1_5]] ?_; (with_reducible refine (spec_l1Close.calls k a0_0 a0_1 a0_2 a0_3 a0_4 a0_5 a1_0 a1_1 a1_2 a1_3 a1_4 a1_5 t295 t296 _ A7.out).mono ?_); rintro e w17 ⟨rfl, hb⟩; refine ⟨_, rfl, ?_⟩; have _ := bb (bk BK291) hb; have _ := bb (bk BK292) hb; have _ := bs hb; clear BK291 BK292 HB; rename_i BK291 BK292 HB; (try clear hb); (try clear hb2); (try clear hk); (try clear hi)))
   go_ret2
   exact ⟨re, bq⟩
  ·replace c6 := Bool.eq_false_iff.mpr c6
   subst c6
   have H1 : (some (0, false)) = some (r1, r2) := by rw [if_neg (show ¬ (false = true) by decide)] at H; exact H
   clear H
   have H := H1
   clear H1
   simp only [Option.some.injEq, Prod.mk.injEq] at H
   obtain ⟨rfl, rfl⟩ := H
   go_enter Try.func100, Try.ntmps100
   go_wp2_with (first | ((with_reducible refine gate_dst (N := 2) rfl ?_); refine be 2 #[.int .i64 a0_0, .int .i64 a0_1, .int .i64 a0_2, .int .i64 a0_3, .int .i64 a0_4, .int .i64 a0_5] 95 ?_; intro gb291 hg w18 hbox hb; have _ := bs hb; have _ := ra (hbox); have _ := bz (w0 := w) hg; have _ := bz (w0 := w) hg; clear HB; rename_i HB BK291 GW291 GE291; clear hb hbox hg) | ((with_reducible refine gate_dst (N := 3) rfl ?_); refine be 3 #[.int .i64 a1_0, .int .i64 a1_1, .int .i64 a1_2, .int .i64 a1_3, .int .i64 a1_4, .int .i64 a1_5] 95 ?_; intro gb292 hg w19 hbox hb; have _ := bb (bk BK291) hb; have _ := bs hb; have _ := ra (hbox); have _ := bz (w0 := w) hg; have _ := bz (w0 := w) hg; have _ := bn hg (bk BK291); have _ := bm hg (bk BK291); clear BK291 HB; rename_i BK291 HB BK292 GW292 GE292 NB291_292 NB292_291; clear hb hbox hg; have hnb20 := NB291_292.out; have hnc20 := NB292_291.out; obtain ⟨hcz21_0, hcz21_1, hcz21_2, hcz21_3, hcz21_4, hcz21_5, hfz21_0, hfz21_1, hfz21_2, hfz21_3, hfz21_4, hfz21_5⟩ := zc6 BK291) | ((with_reducible refine gate_callee (f := 81) rfl ?_); refine gl (some 7) Try.func81 #[.agg #[.int .i64 a0_0, .int .i64 a0_1, .int .i64 a0_2, .int .i64 a0_3, .int .i64 a0_4, .int .i64 a0_5]] ?_; (with_reducible refine (spec_ProbeBoxOk.calls a0_0 a0_1 a0_2 a0_3 a0_4 a0_5 true _ A3.out).mono ?_); rintro e w22 ⟨rfl, hb⟩; refine ⟨_, rfl, ?_⟩; have _ := bb (bk BK291) hb; have _ := bb (bk BK292) hb; have _ := bs hb; clear BK291 BK292 HB; rename_i BK291 BK292 HB; (try clear hb); (try clear hb2); (try clear hk); (try clear hi); obtain ⟨hcz23_0, hcz23_1, hcz23_2, hcz23_3, hcz23_4, hcz23_5, hfz23_0, hfz23_1, hfz23_2, hfz23_3, hfz23_4, hfz23_5⟩ := zc6 BK292) | (go_at_call 81; (with_reducible refine (spec_ProbeBoxOk.calls a1_0 a1_1 a1_2 a1_3 a1_4 a1_5 false _ A5.out).mono ?_); rintro e w24 ⟨rfl, hb⟩; have _ := bb (bk BK291) hb; have _ := bb (bk BK292) hb; have _ := bs hb; clear BK291 BK292 HB; rename_i BK291 BK292 HB; (try clear hb); (try clear hb2); (try clear hk); (try clear hi)))
   go_ret2
   exact ⟨re, bq⟩
 ·replace c4 := Bool.eq_false_iff.mpr c4
  subst c4
  have H1 : (some (0, false)) = some (r1, r2) := by rw [if_neg (show ¬ (false = true) by decide)] at H; exact H
  clear H
  have H := H1
  clear H1
  simp only [Option.some.injEq, Prod.mk.injEq] at H
  obtain ⟨rfl, rfl⟩ := H
  go_enter Try.func100, Try.ntmps100
  go_wp2_with (first | ((with_reducible refine gate_dst (N := 2) rfl ?_); refine be 2 #[.int .i64 a0_0, .int .i64 a0_1, .int .i64 a0_2, .int .i64 a0_3, .int .i64 a0_4, .int .i64 a0_5] 95 ?_; intro gb291 hg w25 hbox hb; have _ := bs hb; have _ := ra (hbox); have _ := bz (w0 := w) hg; have _ := bz (w0 := w) hg; clear HB; rename_i HB BK291 GW291 GE291; clear hb hbox hg) | ((with_reducible refine gate_dst (N := 3) rfl ?_); refine be 3 #[.int .i64 a1_0, .int .i64 a1_1, .int .i64 a1_2, .int .i64 a1_3, .int .i64 a1_4, .int .i64 a1_5] 95 ?_; intro gb292 hg w26 hbox hb; have _ := bb (bk BK291) hb; have _ := bs hb; have _ := ra (hbox); have _ := bz (w0 := w) hg; have _ := bz (w0 := w) hg; have _ := bn hg (bk BK291); have _ := bm hg (bk BK291); clear BK291 HB; rename_i BK291 HB BK292 GW292 GE292 NB291_292 NB292_291; clear hb hbox hg; have hnb27 := NB291_292.out; have hnc27 := NB292_291.out; obtain ⟨hcz28_0, hcz28_1, hcz28_2, hcz28_3, hcz28_4, hcz28_5, hfz28_0, hfz28_1, hfz28_2, hfz28_3, hfz28_4, hfz28_5⟩ := zc6 BK291) | ((with_reducible refine gate_callee (f := 81) rfl ?_); refine gl (some 7) Try.func81 #[.agg #[.int .i64 a0_0, .int .i64 a0_1, .int .i64 a0_2, .int .i64 a0_3, .int .i64 a0_4, .int .i64 a0_5]] ?_; (with_reducible refine (spec_ProbeBoxOk.calls a0_0 a0_1 a0_2 a0_3 a0_4 a0_5 false _ A3.out).mono ?_); rintro e w29 ⟨rfl, hb⟩; refine ⟨_, rfl, ?_⟩; have _ := bb (bk BK291) hb; have _ := bb (bk BK292) hb; have _ := bs hb; clear BK291 BK292 HB; rename_i BK291 BK292 HB; (try clear hb); (try clear hb2); (try clear hk); (try clear hi)))
  go_ret2
  exact ⟨re, bq⟩
set_option maxHeartbeats 8000000 in
set_option maxRecDepth 100000 in
theorem spec_l5Box.calls (a0_0 : Int) (a0_1 : Int) (A0_2 : Option Addr) (c0_2 : Nat) (l0_2 : List (S101)) (a1_0 : Int) (a1_1 : Int) (a1_2 : Int) (a1_3 : Int) (a1_4 : ByteArray) (a1_5 : Int) (r1 : Int) (r2 : Int) (r3 : Int) (r4 : Int) (r5 : Int) (r6 : Int) (w : World) (hr0_2 : Kd.C k101 w A0_2 l0_2.length l0_2) (hc0_2 : l0_2.length ≤ c0_2) (h : spec_l5Box.f a0_0 a0_1 l0_2 a1_0 a1_1 a1_2 a1_3 a1_4 a1_5 = some (r1, r2, r3, r4, r5, r6)) :
  Calls Try.prog 101 #[.agg #[.int .i64 a0_0, .int .i64 a0_1, .slice A0_2 l0_2.length c0_2], .agg #[.int .i64 a1_0, .int .i64 a1_1, .int .i64 a1_2, .int .i64 a1_3, .string a1_4, .int .i64 a1_5]] w fun e w' => e = .returned (.agg #[.int .i64 r1, .int .i64 r2, .int .i64 r3, .int .i64 r4, .int .i64 r5, .int .i64 r6]) ∧ Below w.heap.size w w' := by
 have hu105 := Try.underlying105
 have hu101 := Try.underlying101
 have hu95 := Try.underlying95
 have HR0_2 := Aside0.mk hr0_2
 have HC0_2 := Aside0.mk hc0_2
 clear hr0_2 hc0_2
 have HB := ra (Below.refl w.heap.size w)
 have H : (some (a0_0, a0_1, a1_2, a1_3, a1_0, a1_1)) = some (r1, r2, r3, r4, r5, r6) := h
 clear h
 simp only [Option.some.injEq, Prod.mk.injEq] at H
 obtain ⟨rfl, rfl, rfl, rfl, rfl, rfl⟩ := H
 go_enter Try.func101, Try.ntmps101
 go_wp2_with (first | ((with_reducible refine gate_dst (N := 2) rfl ?_); refine be 2 #[.int .i64 a0_0, .int .i64 a0_1, .slice A0_2 l0_2.length c0_2] 105 ?_; intro gb297 hg w3 hbox hb; have _ := bs hb; have _ := ra (hbox); have _ := bz (w0 := w) hg; have _ := bz (w0 := w) hg; clear HB; rename_i HB BK297 GW297 GE297; clear hb hbox hg) | ((with_reducible refine gate_dst (N := 3) rfl ?_); refine be 3 #[.int .i64 a1_0, .int .i64 a1_1, .int .i64 a1_2, .int .i64 a1_3, .string a1_4, .int .i64 a1_5] 101 ?_; intro gb298 hg w4 hbox hb; have _ := bb (bk BK297) hb; have _ := bs hb; have _ := ra (hbox); have _ := bz (w0 := w) hg; have _ := bz (w0 := w) hg; have _ := bn hg (bk BK297); have _ := bm hg (bk BK297); clear BK297 HB; rename_i BK297 HB BK298 GW298 GE298 NB297_298 NB298_297; clear hb hbox hg) | ((with_reducible refine gate_dst (N := 4) rfl ?_); refine be 4 #[.int .i64 0, .int .i64 0, .int .i64 0, .int .i64 0, .int .i64 0, .int .i64 0] 95 ?_; intro gb299 hg w5 hbox hb; have _ := bb (bk BK297) hb; have _ := bb (bk BK298) hb; have _ := bs hb; have _ := ra (hbox); have _ := bz (w0 := w) hg; have _ := bz (w0 := w) hg; have _ := bn hg (bk BK297); have _ := bm hg (bk BK297); have _ := bn hg (bk BK298); have _ := bm hg (bk BK298); clear BK297 BK298 HB; rename_i BK297 BK298 HB BK299 GW299 GE299 NB297_299 NB299_297 NB298_299 NB299_298; clear hb hbox hg; have hnb6 := NB297_298.out; have hnc6 := NB298_297.out; have hnb7 := NB297_299.out; have hnc7 := NB299_297.out; have hcz8_0 : w5.cell? ⟨gb297, 0, none⟩ = some (.int .i64 a0_0) := (blk_cell BK297.out 0).trans rfl; have hcz8_1 : w5.cell? ⟨gb297, 1, none⟩ = some (.int .i64 a0_1) := (blk_cell BK297.out 1).trans rfl; have hcz8_2 : w5.cell? ⟨gb297, 2, none⟩ = some (.slice A0_2 l0_2.length c0_2) := (blk_cell BK297.out 2).trans rfl; have hfz8_0 := blk_frozen BK297.out 0; have hfz8_1 := blk_frozen BK297.out 1; have hfz8_2 := blk_frozen BK297.out 2; have hnb9 := NB298_299.out; have hnc9 := NB299_298.out; obtain ⟨hcz10_0, hcz10_1, hcz10_2, hcz10_3, hcz10_4, hcz10_5, hfz10_0, hfz10_1, hfz10_2, hfz10_3, hfz10_4, hfz10_5⟩ := zc6 BK298; obtain ⟨hcz11_0, hcz11_1, hcz11_2, hcz11_3, hcz11_4, hcz11_5, hfz11_0, hfz11_1, hfz11_2, hfz11_3, hfz11_4, hfz11_5⟩ := zc6 BK299))
 refine bodyPost_ret (results_cell_row rfl _ _ gb299 95 #[.int .i64 a0_0, .int .i64 a0_1, .int .i64 a1_2, .int .i64 a1_3, .int .i64 a1_0, .int .i64 a1_1] (0, 0) _ rfl (bp BK299) Try.underlying95 rfl (by kernel_rfl)) rfl ?_
 exact ⟨re, bq⟩
set_option maxHeartbeats 8000000 in
set_option maxRecDepth 100000 in
theorem spec_l5Sooner.calls (a0_0 : ByteArray) (a0_1 : ByteArray) (a0_2 : Int) (a0_3 : Int) (a0_4 : Int) (a1_0 : ByteArray) (a1_1 : ByteArray) (a1_2 : Int) (a1_3 : Int) (a1_4 : Int) (r : Bool) (w : World) (h : spec_l5Sooner.f a0_0 a0_1 a0_2 a0_3 a0_4 a1_0 a1_1 a1_2 a1_3 a1_4 = some r) :
  Calls Try.prog 102 #[.agg #[.string a0_0, .string a0_1, .int .i64 a0_2, .int .i64 a0_3, .int .i64 a0_4], .agg #[.string a1_0, .string a1_1, .int .i64 a1_2, .int .i64 a1_3, .int .i64 a1_4]] w fun e w' => e = .returned (.bool r) ∧ Below w.heap.size w w' := by
 have hu49 := Try.underlying49
 have HB := ra (Below.refl w.heap.size w)
 have H : (if a0_2 = a1_2 then (if a0_3 = a1_3 then (some (decide (a0_4 < a1_4))) else (some (decide (a0_3 < a1_3)))) else (some (decide (a0_2 < a1_2)))) = some r := h
 clear h
 by_cases c3 : a0_2 = a1_2
 ·rw [if_pos c3] at H
  have c3b0 : (a0_2 == a1_2) = true := beq_iff_eq.mpr c3
  have c3b1 : (a0_2 != a1_2) = false := bne_eq_false_iff_eq.mpr c3
  clear c3
  by_cases c4 : a0_3 = a1_3
  ·rw [if_pos c4] at H
   have c4b0 : (a0_3 == a1_3) = true := beq_iff_eq.mpr c4
   have c4b1 : (a0_3 != a1_3) = false := bne_eq_false_iff_eq.mpr c4
   clear c4
   obtain rfl := Option.some.inj H
   go_enter Try.func102, Try.ntmps102
   go_wp2_with (first | ((with_reducible refine gate_dst (N := 2) rfl ?_); refine be 2 #[.string a0_0, .string a0_1, .int .i64 a0_2, .int .i64 a0_3, .int .i64 a0_4] 49 ?_; intro gb300 hg w5 hbox hb; have _ := bs hb; have _ := ra (hbox); have _ := bz (w0 := w) hg; have _ := bz (w0 := w) hg; clear HB; rename_i HB BK300 GW300 GE300; clear hb hbox hg) | ((with_reducible refine gate_dst (N := 3) rfl ?_); refine be 3 #[.string a1_0, .string a1_1, .int .i64 a1_2, .int .i64 a1_3, .int .i64 a1_4] 49 ?_; intro gb301 hg w6 hbox hb; have _ := bb (bk BK300) hb; have _ := bs hb; have _ := ra (hbox); have _ := bz (w0 := w) hg; have _ := bz (w0 := w) hg; have _ := bn hg (bk BK300); have _ := bm hg (bk BK300); clear BK300 HB; rename_i BK300 HB BK301 GW301 GE301 NB300_301 NB301_300; clear hb hbox hg; have hnb7 := NB300_301.out; have hnc7 := NB301_300.out; obtain ⟨hcz8_0, hcz8_1, hcz8_2, hcz8_3, hcz8_4, hfz8_0, hfz8_1, hfz8_2, hfz8_3, hfz8_4⟩ := zc5 BK300; obtain ⟨hcz9_0, hcz9_1, hcz9_2, hcz9_3, hcz9_4, hfz9_0, hfz9_1, hfz9_2, hfz9_3, hfz9_4⟩ := zc5 BK301))
   go_ret
   exact ⟨re, bq⟩
  ·rw [if_neg c4] at H
   have c4b0 : (a0_3 == a1_3) = false := beq_eq_false_iff_ne.mpr c4
   have c4b1 : (a0_3 != a1_3) = true := bne_iff_ne.mpr c4
   obtain rfl := Option.some.inj H
   go_enter Try.func102, Try.ntmps102
   go_wp2_with (first | ((with_reducible refine gate_dst (N := 2) rfl ?_); refine be 2 #[.string a0_0, .string a0_1, .int .i64 a0_2, .int .i64 a0_3, .int .i64 a0_4] 49 ?_; intro gb300 hg w10 hbox hb; have _ := bs hb; have _ := ra (hbox); have _ := bz (w0 := w) hg; have _ := bz (w0 := w) hg; clear HB; rename_i HB BK300 GW300 GE300; clear hb hbox hg) | ((with_reducible refine gate_dst (N := 3) rfl ?_); refine be 3 #[.string a1_0, .string a1_1, .int .i64 a1_2, .int .i64 a1_3, .int .i64 a1_4] 49 ?_; intro gb301 hg w11 hbox hb; have _ := bb (bk BK300) hb; have _ := bs hb; have _ := ra (hbox); have _ := bz (w0 := w) hg; have _ := bz (w0 := w) hg; have _ := bn hg (bk BK300); have _ := bm hg (bk BK300); clear BK300 HB; rename_i BK300 HB BK301 GW301 GE301 NB300_301 NB301_300; clear hb hbox hg; have hnb12 := NB300_301.out; have hnc12 := NB301_300.out; obtain ⟨hcz13_0, hcz13_1, hcz13_2, hcz13_3, hcz13_4, hfz13_0, hfz13_1, hfz13_2, hfz13_3, hfz13_4⟩ := zc5 BK300; obtain ⟨hcz14_0, hcz14_1, hcz14_2, hcz14_3, hcz14_4, hfz14_0, hfz14_1, hfz14_2, hfz14_3, hfz14_4⟩ := zc5 BK301))
   go_ret
   exact ⟨re, bq⟩
 ·rw [if_neg c3] at H
  have c3b0 : (a0_2 == a1_2) = false := beq_eq_false_iff_ne.mpr c3
  have c3b1 : (a0_2 != a1_2) = true := bne_iff_ne.mpr c3
  obtain rfl := Option.some.inj H
  go_enter Try.func102, Try.ntmps102
  go_wp2_with (first | ((with_reducible refine gate_dst (N := 2) rfl ?_); refine be 2 #[.string a0_0, .string a0_1, .int .i64 a0_2, .int .i64 a0_3, .int .i64 a0_4] 49 ?_; intro gb300 hg w15 hbox hb; have _ := bs hb; have _ := ra (hbox); have _ := bz (w0 := w) hg; have _ := bz (w0 := w) hg; clear HB; rename_i HB BK300 GW300 GE300; clear hb hbox hg) | ((with_reducible refine gate_dst (N := 3) rfl ?_); refine be 3 #[.string a1_0, .string a1_1, .int .i64 a1_2, .int .i64 a1_3, .int .i64 a1_4] 49 ?_; intro gb301 hg w16 hbox hb; have _ := bb (bk BK300) hb; have _ := bs hb; have _ := ra (hbox); have _ := bz (w0 := w) hg; have _ := bz (w0 := w) hg; have _ := bn hg (bk BK300); have _ := bm hg (bk BK300); clear BK300 HB; rename_i BK300 HB BK301 GW301 GE301 NB300_301 NB301_300; clear hb hbox hg; have hnb17 := NB300_301.out; have hnc17 := NB301_300.out; obtain ⟨hcz18_0, hcz18_1, hcz18_2, hcz18_3, hcz18_4, hfz18_0, hfz18_1, hfz18_2, hfz18_3, hfz18_4⟩ := zc5 BK300; obtain ⟨hcz19_0, hcz19_1, hcz19_2, hcz19_3, hcz19_4, hfz19_0, hfz19_1, hfz19_2, hfz19_3, hfz19_4⟩ := zc5 BK301))
  go_ret
  exact ⟨re, bq⟩
def spec_l5First.T13 : Bool × List (List Nat × List Nat) := (true, [([], []), ([0], [0]), ([], []), ([1, 2], [1, 2]), ([3], [3]), ([], []), ([5], [5]), ([], []), ([6, 7], [6, 7]), ([8], [8]), ([], []), ([9, 10], [9, 10]), ([4, 11, 11], [4, 11]), ([12], [12]), ([13], [13]), ([13], [13]), ([14, 12, 0, 1, 2, 3, 4, 5, 6, 7, 8, 9, 10, 11, 12, 13, 14], [14]), ([15, 16, 0, 1, 2, 3, 4, 5, 6, 7, 8, 9, 10, 11, 12, 13, 14, 15, 16], [15])])
def spec_l5First.B13 : List Nat := [0, 1, 0, 7, 15, 0, 32, 0, 224, 480, 0, 2016, 4095, 8191, 16383, 16383, 32767, 131071]
theorem spec_l5First.tab13 : rtab .any (opsOf Try.f74 13) = spec_l5First.T13 := by kernel_rfl
theorem spec_l5First.bits13 : waitsOk spec_l5First.T13.2 spec_l5First.B13 = true := by kernel_rfl
set_option maxHeartbeats 8000000 in
set_option maxRecDepth 100000 in
theorem spec_l5First.calls (k : Nat) (A0_0 : Option Addr) (c0_0 : Nat) (l0_0 : List (S105)) (a1_0 : ByteArray) (A1_1 : Option Addr) (c1_1 : Nat) (l1_1 : List (S95)) (a2 : ByteArray) (r1 : ByteArray) (r2 : ByteArray) (r3 : Int) (r4 : Int) (r5 : Int) (r6 : Bool) (w : World) (hr0_0 : Kd.C k105 w A0_0 l0_0.length l0_0) (hc0_0 : l0_0.length ≤ c0_0) (hr1_1 : Kd.C k95 w A1_1 l1_1.length l1_1) (hc1_1 : l1_1.length ≤ c1_1) (h : spec_l5First.f k l0_0 a1_0 l1_1 a2 = some (r1, r2, r3, r4, r5, r6)) :
  Calls Try.prog 74 #[.agg #[.slice A0_0 l0_0.length c0_0], .agg #[.string a1_0, .slice A1_1 l1_1.length c1_1], .string a2] w fun e w' => e = .returned (.tuple #[.agg #[.string r1, .string r2, .int .i64 r3, .int .i64 r4, .int .i64 r5], .bool r6]) ∧ Below w.heap.size w w' := by
 have hu65 := Try.underlying65
 have hu40 := Try.underlying40
 have hu49 := Try.underlying49
 have hu101 := Try.underlying101
 have hu95 := Try.underlying95
 have hu105 := Try.underlying105
 have HR0_0 := Aside0.mk hr0_0
 have HC0_0 := Aside0.mk hc0_0
 clear hr0_0 hc0_0
 have HR1_1 := Aside0.mk hr1_1
 have HC1_1 := Aside0.mk hc1_1
 clear hr1_1 hc1_1
 have HB := ra (Below.refl w.heap.size w)
 have H : (spec_l5First.l0 k a2 false 0 l0_0 a1_0 l1_1 (⟨#[]⟩ : ByteArray) (⟨#[]⟩ : ByteArray) 0 0 0) = some (r1, r2, r3, r4, r5, r6) := h
 clear h
 have H' := Aside0.mk H
 clear H
 go_enter Try.func74, Try.ntmps74
 go_wp2_with (first | ((with_reducible refine gate_dst (N := 3) rfl ?_); refine be 3 #[.slice A0_0 l0_0.length c0_0] 65 ?_; intro gb302 hg w4 hbox hb; have _ := bs hb; have _ := ra (hbox); have _ := bz (w0 := w) hg; have _ := bz (w0 := w) hg; clear HB; rename_i HB BK302 GW302 GE302; clear hb hbox hg) | ((with_reducible refine gate_dst (N := 4) rfl ?_); refine be 4 #[.string a1_0, .slice A1_1 l1_1.length c1_1] 40 ?_; intro gb303 hg w5 hbox hb; have _ := bb (bk BK302) hb; have _ := bs hb; have _ := ra (hbox); have _ := bz (w0 := w) hg; have _ := bz (w0 := w) hg; have _ := bn hg (bk BK302); have _ := bm hg (bk BK302); clear BK302 HB; rename_i BK302 HB BK303 GW303 GE303 NB302_303 NB303_302; clear hb hbox hg) | ((with_reducible refine gate_dst (N := 6) rfl ?_); refine be 6 #[.string (⟨#[]⟩ : ByteArray), .string (⟨#[]⟩ : ByteArray), .int .i64 0, .int .i64 0, .int .i64 0] 49 ?_; intro gb304 hg w6 hbox hb; have _ := bb (bk BK302) hb; have _ := bb (bk BK303) hb; have _ := bs hb; have _ := ra (hbox); have _ := bz (w0 := w) hg; have _ := bz (w0 := w) hg; have _ := bn hg (bk BK302); have _ := bm hg (bk BK302); have _ := bn hg (bk BK303); have _ := bm hg (bk BK303); clear BK302 BK303 HB; rename_i BK302 BK303 HB BK304 GW304 GE304 NB302_304 NB304_302 NB303_304 NB304_303; clear hb hbox hg) | ((with_reducible refine gate_dst (N := 8) rfl ?_); refine be 8 #[.string (⟨#[]⟩ : ByteArray), .string (⟨#[]⟩ : ByteArray), .int .i64 0, .int .i64 0, .int .i64 0] 49 ?_; intro gb305 hg w7 hbox hb; have _ := bb (bk BK302) hb; have _ := bb (bk BK303) hb; have _ := bb (bk BK304) hb; have _ := bs hb; have _ := ra (hbox); have _ := bz (w0 := w) hg; have _ := bz (w0 := w) hg; have _ := bn hg (bk BK302); have _ := bm hg (bk BK302); have _ := bn hg (bk BK303); have _ := bm hg (bk BK303); have _ := bn hg (bk BK304); have _ := bm hg (bk BK304); clear BK302 BK303 BK304 HB; rename_i BK302 BK303 BK304 HB BK305 GW305 GE305 NB302_305 NB305_302 NB303_305 NB305_303 NB304_305 NB305_304; clear hb hbox hg; have hnb8 := NB305_302.out; have hnc8 := NB302_305.out; have hnb9 := NB305_303.out; have hnc9 := NB303_305.out; have hnb10 := NB305_304.out; have hnc10 := NB304_305.out; obtain ⟨hcz11_0, hcz11_1, hcz11_2, hcz11_3, hcz11_4, hfz11_0, hfz11_1, hfz11_2, hfz11_3, hfz11_4⟩ := zc5 BK305))
 go_loopg [9, 10] k (fun kq v9 v10 w' => ∃ (x9_1 : Bool) (x10_1 : Int) (x306000_1 : ByteArray) (x306001_1 : ByteArray) (x306002_1 : Int) (x306003_1 : Int) (x306004_1 : Int), v9 = .bool x9_1 ∧ v10 = .int .i64 x10_1 ∧ Aside0 (spec_l5First.l0 kq a2 x9_1 x10_1 l0_0 a1_0 l1_1 x306000_1 x306001_1 x306002_1 x306003_1 x306004_1 = some (r1, r2, r3, r4, r5, r6)) ∧ Aside0 (kq ≤ k) ∧ Aside0 (w'.heap[gb302]? = some (.cells #[(.slice A0_0 l0_0.length c0_0)] 65 (0, 0))) ∧ Aside0 (w'.heap[gb303]? = some (.cells #[.string a1_0, (.slice A1_1 l1_1.length c1_1)] 40 (0, 0))) ∧ Aside0 (w'.heap[gb304]? = some (.cells #[.string (⟨#[]⟩ : ByteArray), .string (⟨#[]⟩ : ByteArray), .int .i64 0, .int .i64 0, .int .i64 0] 49 (0, 0))) ∧ Aside0 (w'.heap[gb305]? = some (.cells #[.string x306000_1, .string x306001_1, .int .i64 x306002_1, .int .i64 x306003_1, .int .i64 x306004_1] 49 (0, 0))) ∧ Aside0 (Below w.heap.size w w'))
 case atStart => exact ⟨(false), (0), ((⟨#[]⟩ : ByteArray)), ((⟨#[]⟩ : ByteArray)), (0), (0), (0), rs, rs, H', ⟨Nat.le_refl _⟩, ⟨bk BK302⟩, ⟨bk BK303⟩, ⟨bk BK304⟩, ⟨bp BK305⟩, ⟨bq⟩⟩
 case round =>
  clear H'
  try clear hcz11_0
  try clear hcz11_1
  try clear hcz11_2
  try clear hcz11_3
  try clear hcz11_4
  try clear hfz11_0
  try clear hfz11_1
  try clear hfz11_2
  try clear hfz11_3
  try clear hfz11_4
  obtain ⟨x9_1, x10_1, x306000_1, x306001_1, x306002_1, x306003_1, x306004_1, rfl, rfl, HA, HK1, BK302, BK303, BK304, BK305, HB⟩ := hrel
  cases gk with
  | zero => exact absurd HA.out (by simp [spec_l5First.l0])
  | succ k1 =>
   have H := HA.out
   clear HA
   simp only [spec_l5First.l0] at H
   by_cases c12 : x10_1 < (l0_0.length : Int)
   ·rw [if_pos c12] at H
    have c12b0 : decide (x10_1 < (l0_0.length : Int)) = true := decide_eq_true c12
    clear c12
    have H' := Aside0.mk H
    clear H
    have hnb13 := NB302_303.out
    have hnc13 := NB303_302.out
    have hnb14 := NB302_304.out
    have hnc14 := NB304_302.out
    have hnb15 := NB302_305.out
    have hnc15 := NB305_302.out
    obtain ⟨hcz16_0, hfz16_0⟩ := zc1 BK302
    go_wp2
    go_loopg [9, 11] k1 (fun kq v9 v11 w' => ∃ (x9_2 : Bool) (x11_2 : Int) (x306000_2 : ByteArray) (x306001_2 : ByteArray) (x306002_2 : Int) (x306003_2 : Int) (x306004_2 : Int), v9 = .bool x9_2 ∧ v11 = .int .i64 x11_2 ∧ Aside0 (spec_l5First.l1 kq a2 x9_2 x10_1 x11_2 l0_0 a1_0 l1_1 x306000_2 x306001_2 x306002_2 x306003_2 x306004_2 = some (r1, r2, r3, r4, r5, r6)) ∧ Aside0 (kq ≤ k1) ∧ Aside0 (w'.heap[gb302]? = some (.cells #[(.slice A0_0 l0_0.length c0_0)] 65 (0, 0))) ∧ Aside0 (w'.heap[gb303]? = some (.cells #[.string a1_0, (.slice A1_1 l1_1.length c1_1)] 40 (0, 0))) ∧ Aside0 (w'.heap[gb304]? = some (.cells #[.string (⟨#[]⟩ : ByteArray), .string (⟨#[]⟩ : ByteArray), .int .i64 0, .int .i64 0, .int .i64 0] 49 (0, 0))) ∧ Aside0 (w'.heap[gb305]? = some (.cells #[.string x306000_2, .string x306001_2, .int .i64 x306002_2, .int .i64 x306003_2, .int .i64 x306004_2] 49 (0, 0))) ∧ Aside0 (Below w.heap.size w w'))
    case atStart => exact ⟨(x9_1), (0), (x306000_1), (x306001_1), (x306002_1), (x306003_1), (x306004_1), rs, rs, H', ⟨Nat.le_refl _⟩, ⟨bk BK302⟩, ⟨bk BK303⟩, ⟨bk BK304⟩, ⟨bk BK305⟩, ⟨bq⟩⟩
    case round =>
     clear H'
     try clear c12
     try clear c12b0
     try clear hcz11_0
     try clear hcz11_1
     try clear hcz11_2
     try clear hcz11_3
     try clear hcz11_4
     try clear hcz16_0
     try clear hfz11_0
     try clear hfz11_1
     try clear hfz11_2
     try clear hfz11_3
     try clear hfz11_4
     try clear hfz16_0
     obtain ⟨x9_2, x11_2, x306000_2, x306001_2, x306002_2, x306003_2, x306004_2, rfl, rfl, HA, HK2, BK302, BK303, BK304, BK305, HB⟩ := hrel
     cases gk with
     | zero => exact absurd HA.out (by simp [spec_l5First.l1])
     | succ k2 =>
      have H := HA.out
      clear HA
      simp only [spec_l5First.l1] at H
      by_cases c17 : 0 ≤ x10_1
      ·rw [if_pos c17] at H
       have c17b0 : decide (0 ≤ x10_1) = true := decide_eq_true c17
       clear c17
       by_cases c18 : x10_1 < (l0_0.length : Int)
       ·rw [if_pos c18] at H
        have c18b0 : decide (x10_1 < (l0_0.length : Int)) = true := decide_eq_true c18
        clear c18
        by_cases c19 : x11_2 < (((rd_T105 l0_0 x10_1).f2).length : Int)
        ·rw [if_pos c19] at H
         have c19b0 : decide (x11_2 < (((rd_T105 l0_0 x10_1).f2).length : Int)) = true := decide_eq_true c19
         clear c19
         by_cases c20 : 0 ≤ x11_2
         ·rw [if_pos c20] at H
          have c20b0 : decide (0 ≤ x11_2) = true := decide_eq_true c20
          clear c20
          have H' := Aside0.mk H
          clear H
          have hnb21 := NB302_303.out
          have hnc21 := NB303_302.out
          have hnb22 := NB302_304.out
          have hnc22 := NB304_302.out
          have hnb23 := NB302_305.out
          have hnc23 := NB305_302.out
          obtain ⟨hcz24_0, hfz24_0⟩ := zc1 BK302
          have p306 : 0 ≤ (x10_1 : Int) := od
          have q306 : x10_1 < (l0_0.length : Int) := od
          obtain ⟨ad306, A306_2, c306_2, e306, hx306_0, hx306_1, hx306_2, hl306_2, hi306_2⟩ := at_T105 HR0_0.out x10_1 p306 q306
          cases e306
          replace hx306_0 := hc HB hx306_0
          replace hx306_1 := hc HB hx306_1
          replace hx306_2 := hc HB hx306_2
          have HR306_2 := Aside0.mk hi306_2
          have HC306_2 := Aside0.mk hl306_2
          clear hi306_2 hl306_2
          replace p306 := eq_true p306
          replace q306 := eq_true q306
          have p307 : 0 ≤ (x10_1 : Int) := od
          have q307 : x10_1 < (l0_0.length : Int) := od
          obtain ⟨ad307, A307_2, c307_2, e307, hx307_0, hx307_1, hx307_2, hl307_2, hi307_2⟩ := at_T105 HR0_0.out x10_1 p307 q307
          obtain rfl : ad306 = ad307 := (by injection e307)
          replace hx307_0 := hc HB hx307_0
          replace hx307_1 := hc HB hx307_1
          replace hx307_2 := hc HB hx307_2
          have HR307_2 := Aside0.mk hi307_2
          have HC307_2 := Aside0.mk hl307_2
          clear hi307_2 hl307_2
          replace p307 := eq_true p307
          replace q307 := eq_true q307
          have ea_ := Option.some.inj (hx306_2.symm.trans hx307_2)
          injection ea_ with ea_ en_ ec_
          subst ea_
          subst ec_
          clear en_
          have p308 : 0 ≤ (x11_2 : Int) := od
          have q308 : x11_2 < (((rd_T105 l0_0 x10_1).f2).length : Int) := od
          obtain ⟨ad308, e308, hx308_0, hx308_1, hx308_2, hx308_3, hx308_4, hx308_5⟩ := at_T101 HR307_2.out x11_2 p308 q308
          cases e308
          replace hx308_0 := hc HB hx308_0
          replace hx308_1 := hc HB hx308_1
          replace hx308_2 := hc HB hx308_2
          replace hx308_3 := hc HB hx308_3
          replace hx308_4 := hc HB hx308_4
          replace hx308_5 := hc HB hx308_5
          replace p308 := eq_true p308
          replace q308 := eq_true q308
          go_wp2_with (first | ((with_reducible refine gate_dst (N := 12) rfl ?_); refine be 12 #[.int .i64 0, .int .i64 0, .int .i64 0, .int .i64 0, .string (⟨#[]⟩ : ByteArray), .int .i64 0] 101 ?_; intro gb309 hg w25 hbox hb; have _ := bb (bk BK302) hb; have _ := bb (bk BK303) hb; have _ := bb (bk BK304) hb; have _ := bb (bk BK305) hb; have _ := bs hb; have _ := ra (hbox); have _ := bz (w0 := w) hg; have _ := bz (w0 := w) hg; have _ := bn hg (bk BK302); have _ := bm hg (bk BK302); have _ := bn hg (bk BK303); have _ := bm hg (bk BK303); have _ := bn hg (bk BK304); have _ := bm hg (bk BK304); have _ := bn hg (bk BK305); have _ := bm hg (bk BK305); clear BK302 BK303 BK304 BK305 HB; rename_i BK302 BK303 BK304 BK305 HB BK309 GW309 GE309 NB302_309 NB309_302 NB303_309 NB309_303 NB304_309 NB309_304 NB305_309 NB309_305; clear hb hbox hg; have hnb26 := NB309_302.out; have hnc26 := NB302_309.out; have hnb27 := NB309_303.out; have hnc27 := NB303_309.out; have hnb28 := NB309_304.out; have hnc28 := NB304_309.out; have hnb29 := NB309_305.out; have hnc29 := NB305_309.out; obtain ⟨hcz30_0, hcz30_1, hcz30_2, hcz30_3, hcz30_4, hcz30_5, hfz30_0, hfz30_1, hfz30_2, hfz30_3, hfz30_4, hfz30_5⟩ := zc6 BK309))
          go_loopg [9, 13] k2 (fun kq v9 v13 w' => ∃ (x9_3 : Bool) (x13_3 : Int) (x306000_3 : ByteArray) (x306001_3 : ByteArray) (x306002_3 : Int) (x306003_3 : Int) (x306004_3 : Int), v9 = .bool x9_3 ∧ v13 = .int .i64 x13_3 ∧ Aside0 (spec_l5First.l2 kq a2 x9_3 x10_1 x11_2 x13_3 l0_0 a1_0 l1_1 x306000_3 x306001_3 x306002_3 x306003_3 x306004_3 ((rd_T101 ((rd_T105 l0_0 x10_1).f2) x11_2).f0) ((rd_T101 ((rd_T105 l0_0 x10_1).f2) x11_2).f1) ((rd_T101 ((rd_T105 l0_0 x10_1).f2) x11_2).f2) ((rd_T101 ((rd_T105 l0_0 x10_1).f2) x11_2).f3) ((rd_T101 ((rd_T105 l0_0 x10_1).f2) x11_2).f4) ((rd_T101 ((rd_T105 l0_0 x10_1).f2) x11_2).f5) = some (r1, r2, r3, r4, r5, r6)) ∧ Aside0 (kq ≤ k2) ∧ Aside0 (w'.heap[gb302]? = some (.cells #[(.slice (some ad306) l0_0.length c0_0)] 65 (0, 0))) ∧ Aside0 (w'.heap[gb303]? = some (.cells #[.string a1_0, (.slice A1_1 l1_1.length c1_1)] 40 (0, 0))) ∧ Aside0 (w'.heap[gb304]? = some (.cells #[.string (⟨#[]⟩ : ByteArray), .string (⟨#[]⟩ : ByteArray), .int .i64 0, .int .i64 0, .int .i64 0] 49 (0, 0))) ∧ Aside0 (w'.heap[gb305]? = some (.cells #[.string x306000_3, .string x306001_3, .int .i64 x306002_3, .int .i64 x306003_3, .int .i64 x306004_3] 49 (0, 0))) ∧ Aside0 (w'.heap[gb309]? = some (.cells #[.int .i64 ((rd_T101 ((rd_T105 l0_0 x10_1).f2) x11_2).f0), .int .i64 ((rd_T101 ((rd_T105 l0_0 x10_1).f2) x11_2).f1), .int .i64 ((rd_T101 ((rd_T105 l0_0 x10_1).f2) x11_2).f2), .int .i64 ((rd_T101 ((rd_T105 l0_0 x10_1).f2) x11_2).f3), .string ((rd_T101 ((rd_T105 l0_0 x10_1).f2) x11_2).f4), .int .i64 ((rd_T101 ((rd_T105 l0_0 x10_1).f2) x11_2).f5)] 101 (0, 0))) ∧ Aside0 (Below w.heap.size w w'))
          case atStart => exact ⟨(x9_2), (0), (x306000_2), (x306001_2), (x306002_2), (x306003_2), (x306004_2), rs, rs, H', ⟨Nat.le_refl _⟩, ⟨bk BK302⟩, ⟨bk BK303⟩, ⟨bk BK304⟩, ⟨bk BK305⟩, ⟨by (with_reducible repeat (first | refine blk_drewN ?_ _ | refine blk_drew ?_ | refine blk_alloc ?_ _)); refine blk_put (cs := #[.int .i64 ((rd_T101 ((rd_T105 l0_0 x10_1).f2) x11_2).f0), .int .i64 ((rd_T101 ((rd_T105 l0_0 x10_1).f2) x11_2).f1), .int .i64 ((rd_T101 ((rd_T105 l0_0 x10_1).f2) x11_2).f2), .int .i64 ((rd_T101 ((rd_T105 l0_0 x10_1).f2) x11_2).f3), .string ((rd_T101 ((rd_T105 l0_0 x10_1).f2) x11_2).f4), .int .i64 0]) ?_ 5 _ rfl; (with_reducible repeat (first | refine blk_drewN ?_ _ | refine blk_drew ?_ | refine blk_alloc ?_ _)); refine blk_put (cs := #[.int .i64 ((rd_T101 ((rd_T105 l0_0 x10_1).f2) x11_2).f0), .int .i64 ((rd_T101 ((rd_T105 l0_0 x10_1).f2) x11_2).f1), .int .i64 ((rd_T101 ((rd_T105 l0_0 x10_1).f2) x11_2).f2), .int .i64 ((rd_T101 ((rd_T105 l0_0 x10_1).f2) x11_2).f3), .string (⟨#[]⟩ : ByteArray), .int .i64 0]) ?_ 4 _ rfl; (with_reducible repeat (first | refine blk_drewN ?_ _ | refine blk_drew ?_ | refine blk_alloc ?_ _)); refine blk_put (cs := #[.int .i64 ((rd_T101 ((rd_T105 l0_0 x10_1).f2) x11_2).f0), .int .i64 ((rd_T101 ((rd_T105 l0_0 x10_1).f2) x11_2).f1), .int .i64 ((rd_T101 ((rd_T105 l0_0 x10_1).f2) x11_2).f2), .int .i64 0, .string (⟨#[]⟩ : ByteArray), .int .i64 0]) ?_ 3 _ rfl; (with_reducible repeat (first | refine blk_drewN ?_ _ | refine blk_drew ?_ | refine blk_alloc ?_ _)); refine blk_put (cs := #[.int .i64 ((rd_T101 ((rd_T105 l0_0 x10_1).f2) x11_2).f0), .int .i64 ((rd_T101 ((rd_T105 l0_0 x10_1).f2) x11_2).f1), .int .i64 0, .int .i64 0, .string (⟨#[]⟩ : ByteArray), .int .i64 0]) ?_ 2 _ rfl; (with_reducible repeat (first | refine blk_drewN ?_ _ | refine blk_drew ?_ | refine blk_alloc ?_ _)); refine blk_put (cs := #[.int .i64 ((rd_T101 ((rd_T105 l0_0 x10_1).f2) x11_2).f0), .int .i64 0, .int .i64 0, .int .i64 0, .string (⟨#[]⟩ : ByteArray), .int .i64 0]) ?_ 1 _ rfl; (with_reducible repeat (first | refine blk_drewN ?_ _ | refine blk_drew ?_ | refine blk_alloc ?_ _)); refine blk_put (cs := #[.int .i64 0, .int .i64 0, .int .i64 0, .int .i64 0, .string (⟨#[]⟩ : ByteArray), .int .i64 0]) ?_ 0 _ rfl; (with_reducible repeat (first | refine blk_drewN ?_ _ | refine blk_drew ?_ | refine blk_alloc ?_ _)); exact BK309.out⟩, ⟨bq⟩⟩
          case round =>
           clear H'
           try clear c12
           try clear c12b0
           try clear c17
           try clear c17b0
           try clear c18
           try clear c18b0
           try clear c19
           try clear c19b0
           try clear c20
           try clear c20b0
           try clear hcz11_0
           try clear hcz11_1
           try clear hcz11_2
           try clear hcz11_3
           try clear hcz11_4
           try clear hcz16_0
           try clear hcz24_0
           try clear hcz30_0
           try clear hcz30_1
           try clear hcz30_2
           try clear hcz30_3
           try clear hcz30_4
           try clear hcz30_5
           try clear hfz11_0
           try clear hfz11_1
           try clear hfz11_2
           try clear hfz11_3
           try clear hfz11_4
           try clear hfz16_0
           try clear hfz24_0
           try clear hfz30_0
           try clear hfz30_1
           try clear hfz30_2
           try clear hfz30_3
           try clear hfz30_4
           try clear hfz30_5
           try clear hx306_0
           try clear hx306_1
           try clear hx306_2
           try clear hx307_0
           try clear hx307_1
           try clear hx307_2
           try clear hx308_0
           try clear hx308_1
           try clear hx308_2
           try clear hx308_3
           try clear hx308_4
           try clear hx308_5
           try clear p306
           try clear p307
           try clear p308
           try clear q306
           try clear q307
           try clear q308
           obtain ⟨x9_3, x13_3, x306000_3, x306001_3, x306002_3, x306003_3, x306004_3, rfl, rfl, HA, HK3, BK302, BK303, BK304, BK305, BK309, HB⟩ := hrel
           cases gk with
           | zero => exact absurd HA.out (by simp [spec_l5First.l2])
           | succ k3 =>
            have H := HA.out
            clear HA
            simp only [spec_l5First.l2] at H
            have HC31 := Aside0.mk H
            clear H
            go_upto_region 11 with (fail)
            go_cut [55] (fun v55 wc => ∃ (kq : Nat) (x55_30 : Bool), v55 = .bool x55_30 ∧ Aside0 (spec_l5First.j3 kq a2 x9_3 x10_1 x11_2 x13_3 x55_30 l0_0 a1_0 l1_1 x306000_3 x306001_3 x306002_3 x306003_3 x306004_3 ((rd_T101 ((rd_T105 l0_0 x10_1).f2) x11_2).f0) ((rd_T101 ((rd_T105 l0_0 x10_1).f2) x11_2).f1) ((rd_T101 ((rd_T105 l0_0 x10_1).f2) x11_2).f2) ((rd_T101 ((rd_T105 l0_0 x10_1).f2) x11_2).f3) ((rd_T101 ((rd_T105 l0_0 x10_1).f2) x11_2).f4) ((rd_T101 ((rd_T105 l0_0 x10_1).f2) x11_2).f5) = some (r1, r2, r3, r4, r5, r6)) ∧ Aside0 (kq ≤ k3) ∧ Aside0 (wc.heap[gb302]? = some (.cells #[(.slice (some ad306) l0_0.length c0_0)] 65 (0, 0))) ∧ Aside0 (wc.heap[gb303]? = some (.cells #[.string a1_0, (.slice A1_1 l1_1.length c1_1)] 40 (0, 0))) ∧ Aside0 (wc.heap[gb304]? = some (.cells #[.string (⟨#[]⟩ : ByteArray), .string (⟨#[]⟩ : ByteArray), .int .i64 0, .int .i64 0, .int .i64 0] 49 (0, 0))) ∧ Aside0 (wc.heap[gb305]? = some (.cells #[.string x306000_3, .string x306001_3, .int .i64 x306002_3, .int .i64 x306003_3, .int .i64 x306004_3] 49 (0, 0))) ∧ Aside0 (wc.heap[gb309]? = some (.cells #[.int .i64 ((rd_T101 ((rd_T105 l0_0 x10_1).f2) x11_2).f0), .int .i64 ((rd_T101 ((rd_T105 l0_0 x10_1).f2) x11_2).f1), .int .i64 ((rd_T101 ((rd_T105 l0_0 x10_1).f2) x11_2).f2), .int .i64 ((rd_T101 ((rd_T105 l0_0 x10_1).f2) x11_2).f3), .string ((rd_T101 ((rd_T105 l0_0 x10_1).f2) x11_2).f4), .int .i64 ((rd_T101 ((rd_T105 l0_0 x10_1).f2) x11_2).f5)] 101 (0, 0))) ∧ Aside0 (Below w.heap.size w wc))
            case first =>
             have H := HC31.out
             clear HC31
             by_cases c32 : x13_3 < (l1_1.length : Int)
             ·rw [if_pos c32] at H
              have c32b0 : decide (x13_3 < (l1_1.length : Int)) = true := decide_eq_true c32
              clear c32
              (first | rw [c32b0] | (simp only [i64_w, i32_w]; rw [c32b0]) | skip)
              have H' := Aside0.mk H
              clear H
              have hnb33 := NB303_302.out
              have hnc33 := NB302_303.out
              have hnb34 := NB303_304.out
              have hnc34 := NB304_303.out
              have hnb35 := NB303_305.out
              have hnc35 := NB305_303.out
              have hnb36 := NB303_309.out
              have hnc36 := NB309_303.out
              obtain ⟨hcz37_0, hcz37_1, hfz37_0, hfz37_1⟩ := zc2 BK303
              have hnb38 := NB309_302.out
              have hnc38 := NB302_309.out
              have hnb39 := NB309_304.out
              have hnc39 := NB304_309.out
              have hnb40 := NB309_305.out
              have hnc40 := NB305_309.out
              obtain ⟨hcz41_0, hcz41_1, hcz41_2, hcz41_3, hcz41_4, hcz41_5, hfz41_0, hfz41_1, hfz41_2, hfz41_3, hfz41_4, hfz41_5⟩ := zc6 BK309
              go_wp2
              go_meet
              case rel => exact ⟨_, ((((rd_T101 ((rd_T105 l0_0 x10_1).f2) x11_2).f4).toList == a2.toList)), rs, H', ⟨by have := HK1.out; have := HK2.out; have := HK3.out; first | omega | exact Nat.le_refl _⟩, ⟨bk BK302⟩, ⟨bk BK303⟩, ⟨bk BK304⟩, ⟨bk BK305⟩, ⟨bk BK309⟩, ⟨bq⟩⟩
             ·rw [if_neg c32] at H
              have c32b0 : decide (x13_3 < (l1_1.length : Int)) = false := decide_eq_false c32
              clear c32
              (first | rw [c32b0] | (simp only [i64_w, i32_w]; rw [c32b0]) | skip)
              have H' := Aside0.mk H
              clear H
              have hnb42 := NB303_302.out
              have hnc42 := NB302_303.out
              have hnb43 := NB303_304.out
              have hnc43 := NB304_303.out
              have hnb44 := NB303_305.out
              have hnc44 := NB305_303.out
              have hnb45 := NB303_309.out
              have hnc45 := NB309_303.out
              obtain ⟨hcz46_0, hcz46_1, hfz46_0, hfz46_1⟩ := zc2 BK303
              go_wp2
              go_meet
              case rel => exact ⟨_, (false), rs, H', ⟨by have := HK1.out; have := HK2.out; have := HK3.out; first | omega | exact Nat.le_refl _⟩, ⟨bk BK302⟩, ⟨bk BK303⟩, ⟨bk BK304⟩, ⟨bk BK305⟩, ⟨bk BK309⟩, ⟨bq⟩⟩
            case rest =>
             clear HC31
             try clear c12
             try clear c12b0
             try clear c17
             try clear c17b0
             try clear c18
             try clear c18b0
             try clear c19
             try clear c19b0
             try clear c20
             try clear c20b0
             try clear c32
             try clear c32b0
             try clear hcz11_0
             try clear hcz11_1
             try clear hcz11_2
             try clear hcz11_3
             try clear hcz11_4
             try clear hcz16_0
             try clear hcz24_0
             try clear hcz30_0
             try clear hcz30_1
             try clear hcz30_2
             try clear hcz30_3
             try clear hcz30_4
             try clear hcz30_5
             try clear hcz37_0
             try clear hcz37_1
             try clear hcz41_0
             try clear hcz41_1
             try clear hcz41_2
             try clear hcz41_3
             try clear hcz41_4
             try clear hcz41_5
             try clear hcz46_0
             try clear hcz46_1
             try clear hfz11_0
             try clear hfz11_1
             try clear hfz11_2
             try clear hfz11_3
             try clear hfz11_4
             try clear hfz16_0
             try clear hfz24_0
             try clear hfz30_0
             try clear hfz30_1
             try clear hfz30_2
             try clear hfz30_3
             try clear hfz30_4
             try clear hfz30_5
             try clear hfz37_0
             try clear hfz37_1
             try clear hfz41_0
             try clear hfz41_1
             try clear hfz41_2
             try clear hfz41_3
             try clear hfz41_4
             try clear hfz41_5
             try clear hfz46_0
             try clear hfz46_1
             try clear hx306_0
             try clear hx306_1
             try clear hx306_2
             try clear hx307_0
             try clear hx307_1
             try clear hx307_2
             try clear hx308_0
             try clear hx308_1
             try clear hx308_2
             try clear hx308_3
             try clear hx308_4
             try clear hx308_5
             try clear p306
             try clear p307
             try clear p308
             try clear q306
             try clear q307
             try clear q308
             obtain ⟨kq, x55_30, rfl, HA, HJ30, BK302, BK303, BK304, BK305, BK309, HB⟩ := hcut
             cases kq with
             | zero => exact absurd HA.out (by simp [spec_l5First.j3])
             | succ kj30 =>
              have H := HA.out
              clear HA
              simp only [spec_l5First.j3] at H
              by_cases c47 : x55_30 = true
              ·subst c47
               replace H := it H rfl
               by_cases c48 : 0 ≤ x13_3
               ·rw [if_pos c48] at H
                have c48b0 : decide (0 ≤ x13_3) = true := decide_eq_true c48
                clear c48
                by_cases c49 : x13_3 < (l1_1.length : Int)
                ·rw [if_pos c49] at H
                 have c49b0 : decide (x13_3 < (l1_1.length : Int)) = true := decide_eq_true c49
                 clear c49
                 by_cases c50 : 0 ≤ x10_1
                 ·rw [if_pos c50] at H
                  have c50b0 : decide (0 ≤ x10_1) = true := decide_eq_true c50
                  clear c50
                  by_cases c51 : x10_1 < (l0_0.length : Int)
                  ·rw [if_pos c51] at H
                   have c51b0 : decide (x10_1 < (l0_0.length : Int)) = true := decide_eq_true c51
                   clear c51
                   obtain ⟨⟨t312, t313, t314, t315, t316, t317⟩, A52, H⟩ := bo H
                   try dsimp only at H
                   obtain ⟨⟨t318, t319⟩, A53, H⟩ := bo H
                   try dsimp only at H
                   by_cases c54 : t319 = true
                   ·subst c54
                    replace H := it H rfl
                    by_cases c55 : x9_3 = true
                    ·subst c55
                     replace H := it H rfl
                     obtain ⟨t321, A56, H⟩ := bo H
                     by_cases c57 : t321 = true
                     ·subst c57
                      replace H := it H rfl
                      have H' := Aside0.mk H
                      clear H
                      try go_wp2
                      have _ := ra (blk_drew BK302.out)
                      have _ := ra (blk_drew BK303.out)
                      have _ := ra (blk_drew BK304.out)
                      have _ := ra (blk_drew BK305.out)
                      have _ := ra (blk_drew BK309.out)
                      have _ := ra (below_drew1 HB.out)
                      clear BK302 BK303 BK304 BK305 BK309 HB
                      rename_i BK302 BK303 BK304 BK305 BK309 HB
                      have p310 : 0 ≤ (x13_3 : Int) := od
                      have q310 : x13_3 < (l1_1.length : Int) := od
                      obtain ⟨ad310, e310, hx310_0, hx310_1, hx310_2, hx310_3, hx310_4, hx310_5⟩ := at_T95 HR1_1.out x13_3 p310 q310
                      have hw310_5 := hx310_5
                      have hw310_4 := hx310_4
                      have hw310_3 := hx310_3
                      have hw310_2 := hx310_2
                      have hw310_1 := hx310_1
                      have hw310_0 := hx310_0
                      cases e310
                      replace hx310_0 := hc HB hx310_0
                      replace hx310_1 := hc HB hx310_1
                      replace hx310_2 := hc HB hx310_2
                      replace hx310_3 := hc HB hx310_3
                      replace hx310_4 := hc HB hx310_4
                      replace hx310_5 := hc HB hx310_5
                      replace p310 := eq_true p310
                      replace q310 := eq_true q310
                      have p311 : 0 ≤ (x10_1 : Int) := od
                      have q311 : x10_1 < (l0_0.length : Int) := od
                      obtain ⟨ad311, A311_2, c311_2, e311, hx311_0, hx311_1, hx311_2, hl311_2, hi311_2⟩ := at_T105 HR0_0.out x10_1 p311 q311
                      have hw311_2 := hx311_2
                      have hw311_1 := hx311_1
                      have hw311_0 := hx311_0
                      obtain rfl : ad306 = ad311 := (by injection e311)
                      replace hx311_0 := hc HB hx311_0
                      replace hx311_1 := hc HB hx311_1
                      replace hx311_2 := hc HB hx311_2
                      have HR311_2 := Aside0.mk hi311_2
                      have HC311_2 := Aside0.mk hl311_2
                      clear hi311_2 hl311_2
                      replace p311 := eq_true p311
                      replace q311 := eq_true q311
                      refine start_ (n := 18) (S := fun w' => w'.cell? ⟨gb303, 0, none⟩ = some (.string a1_0) ∧ w'.cell? ⟨gb303, 1, none⟩ = some (.slice (some ad310) l1_1.length c1_1) ∧ w'.cell? ⟨gb302, 0, none⟩ = some (.slice (some ad306) l0_0.length c0_0) ∧ w'.cell? ⟨gb309, 0, none⟩ = some (.int .i64 ((rd_T101 ((rd_T105 l0_0 x10_1).f2) x11_2).f0)) ∧ w'.cell? ⟨gb309, 1, none⟩ = some (.int .i64 ((rd_T101 ((rd_T105 l0_0 x10_1).f2) x11_2).f1)) ∧ w'.cell? ⟨gb309, 2, none⟩ = some (.int .i64 ((rd_T101 ((rd_T105 l0_0 x10_1).f2) x11_2).f2)) ∧ w'.cell? ⟨gb309, 3, none⟩ = some (.int .i64 ((rd_T101 ((rd_T105 l0_0 x10_1).f2) x11_2).f3)) ∧ w'.cell? ⟨gb309, 4, none⟩ = some (.string ((rd_T101 ((rd_T105 l0_0 x10_1).f2) x11_2).f4)) ∧ w'.cell? ⟨gb309, 5, none⟩ = some (.int .i64 ((rd_T101 ((rd_T105 l0_0 x10_1).f2) x11_2).f5)) ∧ w'.cell? (ad310.add ((x13_3).toNat * 6)) = some (.int .i64 ((rd_T95 l1_1 x13_3).f0)) ∧ w'.cell? ⟨(ad310.add ((x13_3).toNat * 6)).block, (ad310.add ((x13_3).toNat * 6)).off + 1, none⟩ = some (.int .i64 ((rd_T95 l1_1 x13_3).f1)) ∧ w'.cell? ⟨(ad310.add ((x13_3).toNat * 6)).block, (ad310.add ((x13_3).toNat * 6)).off + 2, none⟩ = some (.int .i64 ((rd_T95 l1_1 x13_3).f2)) ∧ w'.cell? ⟨(ad310.add ((x13_3).toNat * 6)).block, (ad310.add ((x13_3).toNat * 6)).off + 3, none⟩ = some (.int .i64 ((rd_T95 l1_1 x13_3).f3)) ∧ w'.cell? ⟨(ad310.add ((x13_3).toNat * 6)).block, (ad310.add ((x13_3).toNat * 6)).off + 4, none⟩ = some (.int .i64 ((rd_T95 l1_1 x13_3).f4)) ∧ w'.cell? ⟨(ad310.add ((x13_3).toNat * 6)).block, (ad310.add ((x13_3).toNat * 6)).off + 5, none⟩ = some (.int .i64 ((rd_T95 l1_1 x13_3).f5)) ∧ w'.cell? (ad306.add ((x10_1).toNat * 3)) = some (.int .i64 ((rd_T105 l0_0 x10_1).f0)) ∧ w'.cell? ⟨(ad306.add ((x10_1).toNat * 3)).block, (ad306.add ((x10_1).toNat * 3)).off + 1, none⟩ = some (.int .i64 ((rd_T105 l0_0 x10_1).f1)) ∧ w'.cell? ⟨(ad306.add ((x10_1).toNat * 3)).block, (ad306.add ((x10_1).toNat * 3)).off + 2, none⟩ = some (.slice A311_2 ((rd_T105 l0_0 x10_1).f2).length c311_2)) (ds := []) (bl 18 0) (by kernel_rfl) rfl rfl ⟨(blk_cell BK303.out 0).trans rfl, (blk_cell BK303.out 1).trans rfl, (blk_cell BK302.out 0).trans rfl, (blk_cell BK309.out 0).trans rfl, (blk_cell BK309.out 1).trans rfl, (blk_cell BK309.out 2).trans rfl, (blk_cell BK309.out 3).trans rfl, (blk_cell BK309.out 4).trans rfl, (blk_cell BK309.out 5).trans rfl, (hc HB hw310_0), (hc HB hw310_1), (hc HB hw310_2), (hc HB hw310_3), (hc HB hw310_4), (hc HB hw310_5), (hc HB hw311_0), (hc HB hw311_1), (hc HB hw311_2)⟩ (fun hHeld => ?_); refine with_tabW spec_l5First.tab13 spec_l5First.bits13 (fun HT_ HW_ => ?_)
                      generalize wc.drew = w58 at BK302 BK303 BK304 BK305 BK309 HB HR311_2 hx310_0 hx310_1 hx310_2 hx310_3 hx310_4 hx310_5 hx311_0 hx311_1 hx311_2 hHeld ⊢
                      refine pu 0 59 (bl 18 1) ?_
                      refine pu 2 61 (bl 18 5) ?_
                      refine pu 5 64 (bl 18 37) ?_
                      refine pu 7 66 (bl 18 165) ?_
                      refine tk 1 60 (bl 18 167) ?_ hHeld
                      refine pu 3 62 (bl 18 175) ?_
                      refine tk 4 63 (bl 18 191) ?_ hHeld
                      refine tk 6 65 (bl 18 255) ?_ hHeld
                      refine pu 8 67 (bl 18 511) ?_
                      refine tk 9 68 (bl 18 1023) ?_ hHeld
                      refine tk 10 69 (bl 18 2047) ?_ hHeld
                      refine oe 11 70 (bl 18 4095) (fun K hK => ?_)
                      refine gs Try.func101 #[.agg #[.int .i64 ((rd_T105 l0_0 x10_1).f0), .int .i64 ((rd_T105 l0_0 x10_1).f1), .slice A311_2 ((rd_T105 l0_0 x10_1).f2).length c311_2], .agg #[.int .i64 ((rd_T101 ((rd_T105 l0_0 x10_1).f2) x11_2).f0), .int .i64 ((rd_T101 ((rd_T105 l0_0 x10_1).f2) x11_2).f1), .int .i64 ((rd_T101 ((rd_T105 l0_0 x10_1).f2) x11_2).f2), .int .i64 ((rd_T101 ((rd_T105 l0_0 x10_1).f2) x11_2).f3), .string ((rd_T101 ((rd_T105 l0_0 x10_1).f2) x11_2).f4), .int .i64 ((rd_T101 ((rd_T105 l0_0 x10_1).f2) x11_2).f5)]] ?_
                      with_reducible refine (spec_l5Box.calls ((rd_T105 l0_0 x10_1).f0) ((rd_T105 l0_0 x10_1).f1) _ _ ((rd_T105 l0_0 x10_1).f2) ((rd_T101 ((rd_T105 l0_0 x10_1).f2) x11_2).f0) ((rd_T101 ((rd_T105 l0_0 x10_1).f2) x11_2).f1) ((rd_T101 ((rd_T105 l0_0 x10_1).f2) x11_2).f2) ((rd_T101 ((rd_T105 l0_0 x10_1).f2) x11_2).f3) ((rd_T101 ((rd_T105 l0_0 x10_1).f2) x11_2).f4) ((rd_T101 ((rd_T105 l0_0 x10_1).f2) x11_2).f5) t312 t313 t314 t315 t316 t317 _ ?side1 ?side2 A52.out).mono ?_
                      (case side1 => exact sc HR311_2)
                      (case side2 => exact HC311_2.out)
                      rintro e w59 ⟨rfl, hb⟩
                      refine ⟨_, rfl, ?_⟩
                      have _ := bb (bk BK302) hb
                      have _ := bb (bk BK303) hb
                      have _ := bb (bk BK304) hb
                      have _ := bb (bk BK305) hb
                      have _ := bb (bk BK309) hb
                      have _ := bs hb
                      clear BK302 BK303 BK304 BK305 BK309 HB
                      rename_i BK302 BK303 BK304 BK305 BK309 HB
                      (try clear hb)
                      (try clear hb2)
                      (try clear hk)
                      (try clear hi)
                      refine hK.out _ _ ⟨(blk_cell BK303.out 0).trans rfl, (blk_cell BK303.out 1).trans rfl, (blk_cell BK302.out 0).trans rfl, (blk_cell BK309.out 0).trans rfl, (blk_cell BK309.out 1).trans rfl, (blk_cell BK309.out 2).trans rfl, (blk_cell BK309.out 3).trans rfl, (blk_cell BK309.out 4).trans rfl, (blk_cell BK309.out 5).trans rfl, (hc HB hw310_0), (hc HB hw310_1), (hc HB hw310_2), (hc HB hw310_3), (hc HB hw310_4), (hc HB hw310_5), (hc HB hw311_0), (hc HB hw311_1), (hc HB hw311_2)⟩ (fun hHeld => ?_)
                      clear hK K
                      refine nm 70 ?_
                      refine oe 12 71 (bl 18 8191) (fun K hK => ?_)
                      refine gs Try.func100 #[.agg #[.int .i64 ((rd_T95 l1_1 x13_3).f0), .int .i64 ((rd_T95 l1_1 x13_3).f1), .int .i64 ((rd_T95 l1_1 x13_3).f2), .int .i64 ((rd_T95 l1_1 x13_3).f3), .int .i64 ((rd_T95 l1_1 x13_3).f4), .int .i64 ((rd_T95 l1_1 x13_3).f5)], .agg #[.int .i64 t312, .int .i64 t313, .int .i64 t314, .int .i64 t315, .int .i64 t316, .int .i64 t317]] ?_
                      with_reducible refine (spec_ProbeClose.calls kj30 ((rd_T95 l1_1 x13_3).f0) ((rd_T95 l1_1 x13_3).f1) ((rd_T95 l1_1 x13_3).f2) ((rd_T95 l1_1 x13_3).f3) ((rd_T95 l1_1 x13_3).f4) ((rd_T95 l1_1 x13_3).f5) t312 t313 t314 t315 t316 t317 t318 true _ A53.out).mono ?_
                      rintro e w60 ⟨rfl, hb⟩
                      refine ⟨_, rfl, ?_⟩
                      have _ := bb (bk BK302) hb
                      have _ := bb (bk BK303) hb
                      have _ := bb (bk BK304) hb
                      have _ := bb (bk BK305) hb
                      have _ := bb (bk BK309) hb
                      have _ := bs hb
                      clear BK302 BK303 BK304 BK305 BK309 HB
                      rename_i BK302 BK303 BK304 BK305 BK309 HB
                      (try clear hb)
                      (try clear hb2)
                      (try clear hk)
                      (try clear hi)
                      refine hK.out _ _ ⟨(blk_cell BK303.out 0).trans rfl, (blk_cell BK303.out 1).trans rfl, (blk_cell BK302.out 0).trans rfl, (blk_cell BK309.out 0).trans rfl, (blk_cell BK309.out 1).trans rfl, (blk_cell BK309.out 2).trans rfl, (blk_cell BK309.out 3).trans rfl, (blk_cell BK309.out 4).trans rfl, (blk_cell BK309.out 5).trans rfl, (hc HB hw310_0), (hc HB hw310_1), (hc HB hw310_2), (hc HB hw310_3), (hc HB hw310_4), (hc HB hw310_5), (hc HB hw311_0), (hc HB hw311_1), (hc HB hw311_2)⟩ (fun hHeld => ?_)
                      clear hK K
                      refine nm 71 ?_
                      refine pu 13 58 (bl 18 16383) ?_
                      refine pu 14 72 (bl 18 32767) ?_
                      refine pu 15 73 (bl 18 65535) ?_
                      refine pu 16 14 (bl 18 131071) ?_
                      refine pu 17 15 (bl 18 262143) ?_
                      refine done_ (done_of HT_.out (by kernel_rfl)) ?_
                      have hnb61 := NB303_302.out
                      have hnc61 := NB302_303.out
                      have hnb62 := NB303_304.out
                      have hnc62 := NB304_303.out
                      have hnb63 := NB303_305.out
                      have hnc63 := NB305_303.out
                      have hnb64 := NB303_309.out
                      have hnc64 := NB309_303.out
                      obtain ⟨hcz65_0, hcz65_1, hfz65_0, hfz65_1⟩ := zc2 BK303
                      have hnb66 := NB309_302.out
                      have hnc66 := NB302_309.out
                      have hnb67 := NB309_304.out
                      have hnc67 := NB304_309.out
                      have hnb68 := NB309_305.out
                      have hnc68 := NB305_309.out
                      obtain ⟨hcz69_0, hcz69_1, hcz69_2, hcz69_3, hcz69_4, hcz69_5, hfz69_0, hfz69_1, hfz69_2, hfz69_3, hfz69_4, hfz69_5⟩ := zc6 BK309
                      try go_wp2_with (first | ((with_reducible refine gate_dst (N := 16) rfl ?_); refine be 16 #[.string (⟨#[]⟩ : ByteArray), .string (⟨#[]⟩ : ByteArray), .int .i64 0, .int .i64 0, .int .i64 0] 49 ?_; intro gb320 hg w70 hbox hb; have _ := bb (bk BK302) hb; have _ := bb (bk BK303) hb; have _ := bb (bk BK304) hb; have _ := bb (bk BK305) hb; have _ := bb (bk BK309) hb; have _ := bs hb; have _ := ra (hbox); have _ := bz (w0 := w) hg; have _ := bz (w0 := w) hg; have _ := bn hg (bk BK302); have _ := bm hg (bk BK302); have _ := bn hg (bk BK303); have _ := bm hg (bk BK303); have _ := bn hg (bk BK304); have _ := bm hg (bk BK304); have _ := bn hg (bk BK305); have _ := bm hg (bk BK305); have _ := bn hg (bk BK309); have _ := bm hg (bk BK309); clear BK302 BK303 BK304 BK305 BK309 HB; rename_i BK302 BK303 BK304 BK305 BK309 HB BK320 GW320 GE320 NB302_320 NB320_302 NB303_320 NB320_303 NB304_320 NB320_304 NB305_320 NB320_305 NB309_320 NB320_309; clear hb hbox hg; have hnb71 := NB320_302.out; have hnc71 := NB302_320.out; have hnb72 := NB320_303.out; have hnc72 := NB303_320.out; have hnb73 := NB320_304.out; have hnc73 := NB304_320.out; have hnb74 := NB320_305.out; have hnc74 := NB305_320.out; have hnb75 := NB320_309.out; have hnc75 := NB309_320.out; obtain ⟨hcz76_0, hcz76_1, hcz76_2, hcz76_3, hcz76_4, hfz76_0, hfz76_1, hfz76_2, hfz76_3, hfz76_4⟩ := zc5 BK320; have hnb77 := NB305_302.out; have hnc77 := NB302_305.out; have hnb78 := NB305_304.out; have hnc78 := NB304_305.out; obtain ⟨hcz79_0, hcz79_1, hcz79_2, hcz79_3, hcz79_4, hfz79_0, hfz79_1, hfz79_2, hfz79_3, hfz79_4⟩ := zc5 BK305) | (go_at_call 102; (with_reducible refine (spec_l5Sooner.calls a1_0 a2 t318 x13_3 ((rd_T101 ((rd_T105 l0_0 x10_1).f2) x11_2).f5) x306000_3 x306001_3 x306002_3 x306003_3 x306004_3 true _ A56.out).mono ?_); rintro e w80 ⟨rfl, hb⟩; have _ := bb (bk BK302) hb; have _ := bb (bk BK303) hb; have _ := bb (bk BK304) hb; have _ := bb (bk BK305) hb; have _ := bb (bk BK309) hb; have _ := bb (o := .cells #[.string a1_0, .string a2, .int .i64 t318, .int .i64 x13_3, .int .i64 ((rd_T101 ((rd_T105 l0_0 x10_1).f2) x11_2).f5)] 49 (0, 0)) (bp BK320) hb; have _ := bs hb; clear BK302 BK303 BK304 BK305 BK309 BK320 HB; rename_i BK302 BK303 BK304 BK305 BK309 BK320 HB; (try clear hb); (try clear hb2); (try clear hk); (try clear hi); obtain ⟨hcz81_0, hcz81_1, hcz81_2, hcz81_3, hcz81_4, hfz81_0, hfz81_1, hfz81_2, hfz81_3, hfz81_4⟩ := zc5 BK320; obtain ⟨hcz82_0, hcz82_1, hcz82_2, hcz82_3, hcz82_4, hfz82_0, hfz82_1, hfz82_2, hfz82_3, hfz82_4⟩ := zc5 BK305))
                      go_roundg kj30
                      case measure => have := HK1.out; have := HK2.out; have := HK3.out; have := HJ30.out; omega
                      case rel => exact ⟨(true), (wrap64 (x13_3 + 1)), (a1_0), (a2), (t318), (x13_3), (((rd_T101 ((rd_T105 l0_0 x10_1).f2) x11_2).f5)), rs, rs, H', ⟨by have := HK1.out; have := HK2.out; have := HK3.out; have := HJ30.out; omega⟩, ⟨bk BK302⟩, ⟨bk BK303⟩, ⟨bk BK304⟩, ⟨bp BK305⟩, ⟨bk BK309⟩, ⟨bq⟩⟩
                     ·replace c57 := Bool.eq_false_iff.mpr c57
                      subst c57
                      have H1 : (spec_l5First.l2 kj30 a2 true x10_1 x11_2 (wrap64 (x13_3 + 1)) l0_0 a1_0 l1_1 x306000_3 x306001_3 x306002_3 x306003_3 x306004_3 ((rd_T101 ((rd_T105 l0_0 x10_1).f2) x11_2).f0) ((rd_T101 ((rd_T105 l0_0 x10_1).f2) x11_2).f1) ((rd_T101 ((rd_T105 l0_0 x10_1).f2) x11_2).f2) ((rd_T101 ((rd_T105 l0_0 x10_1).f2) x11_2).f3) ((rd_T101 ((rd_T105 l0_0 x10_1).f2) x11_2).f4) ((rd_T101 ((rd_T105 l0_0 x10_1).f2) x11_2).f5)) = some (r1, r2, r3, r4, r5, r6) := by rw [if_neg (show ¬ (false = true) by decide)] at H; exact H
                      clear H
                      have H := H1
                      clear H1
                      have H' := Aside0.mk H
                      clear H
                      try go_wp2
                      have _ := ra (blk_drew BK302.out)
                      have _ := ra (blk_drew BK303.out)
                      have _ := ra (blk_drew BK304.out)
                      have _ := ra (blk_drew BK305.out)
                      have _ := ra (blk_drew BK309.out)
                      have _ := ra (below_drew1 HB.out)
                      clear BK302 BK303 BK304 BK305 BK309 HB
                      rename_i BK302 BK303 BK304 BK305 BK309 HB
                      have p310 : 0 ≤ (x13_3 : Int) := od
                      have q310 : x13_3 < (l1_1.length : Int) := od
                      obtain ⟨ad310, e310, hx310_0, hx310_1, hx310_2, hx310_3, hx310_4, hx310_5⟩ := at_T95 HR1_1.out x13_3 p310 q310
                      have hw310_5 := hx310_5
                      have hw310_4 := hx310_4
                      have hw310_3 := hx310_3
                      have hw310_2 := hx310_2
                      have hw310_1 := hx310_1
                      have hw310_0 := hx310_0
                      cases e310
                      replace hx310_0 := hc HB hx310_0
                      replace hx310_1 := hc HB hx310_1
                      replace hx310_2 := hc HB hx310_2
                      replace hx310_3 := hc HB hx310_3
                      replace hx310_4 := hc HB hx310_4
                      replace hx310_5 := hc HB hx310_5
                      replace p310 := eq_true p310
                      replace q310 := eq_true q310
                      have p311 : 0 ≤ (x10_1 : Int) := od
                      have q311 : x10_1 < (l0_0.length : Int) := od
                      obtain ⟨ad311, A311_2, c311_2, e311, hx311_0, hx311_1, hx311_2, hl311_2, hi311_2⟩ := at_T105 HR0_0.out x10_1 p311 q311
                      have hw311_2 := hx311_2
                      have hw311_1 := hx311_1
                      have hw311_0 := hx311_0
                      obtain rfl : ad306 = ad311 := (by injection e311)
                      replace hx311_0 := hc HB hx311_0
                      replace hx311_1 := hc HB hx311_1
                      replace hx311_2 := hc HB hx311_2
                      have HR311_2 := Aside0.mk hi311_2
                      have HC311_2 := Aside0.mk hl311_2
                      clear hi311_2 hl311_2
                      replace p311 := eq_true p311
                      replace q311 := eq_true q311
                      refine start_ (n := 18) (S := fun w' => w'.cell? ⟨gb303, 0, none⟩ = some (.string a1_0) ∧ w'.cell? ⟨gb303, 1, none⟩ = some (.slice (some ad310) l1_1.length c1_1) ∧ w'.cell? ⟨gb302, 0, none⟩ = some (.slice (some ad306) l0_0.length c0_0) ∧ w'.cell? ⟨gb309, 0, none⟩ = some (.int .i64 ((rd_T101 ((rd_T105 l0_0 x10_1).f2) x11_2).f0)) ∧ w'.cell? ⟨gb309, 1, none⟩ = some (.int .i64 ((rd_T101 ((rd_T105 l0_0 x10_1).f2) x11_2).f1)) ∧ w'.cell? ⟨gb309, 2, none⟩ = some (.int .i64 ((rd_T101 ((rd_T105 l0_0 x10_1).f2) x11_2).f2)) ∧ w'.cell? ⟨gb309, 3, none⟩ = some (.int .i64 ((rd_T101 ((rd_T105 l0_0 x10_1).f2) x11_2).f3)) ∧ w'.cell? ⟨gb309, 4, none⟩ = some (.string ((rd_T101 ((rd_T105 l0_0 x10_1).f2) x11_2).f4)) ∧ w'.cell? ⟨gb309, 5, none⟩ = some (.int .i64 ((rd_T101 ((rd_T105 l0_0 x10_1).f2) x11_2).f5)) ∧ w'.cell? (ad310.add ((x13_3).toNat * 6)) = some (.int .i64 ((rd_T95 l1_1 x13_3).f0)) ∧ w'.cell? ⟨(ad310.add ((x13_3).toNat * 6)).block, (ad310.add ((x13_3).toNat * 6)).off + 1, none⟩ = some (.int .i64 ((rd_T95 l1_1 x13_3).f1)) ∧ w'.cell? ⟨(ad310.add ((x13_3).toNat * 6)).block, (ad310.add ((x13_3).toNat * 6)).off + 2, none⟩ = some (.int .i64 ((rd_T95 l1_1 x13_3).f2)) ∧ w'.cell? ⟨(ad310.add ((x13_3).toNat * 6)).block, (ad310.add ((x13_3).toNat * 6)).off + 3, none⟩ = some (.int .i64 ((rd_T95 l1_1 x13_3).f3)) ∧ w'.cell? ⟨(ad310.add ((x13_3).toNat * 6)).block, (ad310.add ((x13_3).toNat * 6)).off + 4, none⟩ = some (.int .i64 ((rd_T95 l1_1 x13_3).f4)) ∧ w'.cell? ⟨(ad310.add ((x13_3).toNat * 6)).block, (ad310.add ((x13_3).toNat * 6)).off + 5, none⟩ = some (.int .i64 ((rd_T95 l1_1 x13_3).f5)) ∧ w'.cell? (ad306.add ((x10_1).toNat * 3)) = some (.int .i64 ((rd_T105 l0_0 x10_1).f0)) ∧ w'.cell? ⟨(ad306.add ((x10_1).toNat * 3)).block, (ad306.add ((x10_1).toNat * 3)).off + 1, none⟩ = some (.int .i64 ((rd_T105 l0_0 x10_1).f1)) ∧ w'.cell? ⟨(ad306.add ((x10_1).toNat * 3)).block, (ad306.add ((x10_1).toNat * 3)).off + 2, none⟩ = some (.slice A311_2 ((rd_T105 l0_0 x10_1).f2).length c311_2)) (ds := []) (bl 18 0) (by kernel_rfl) rfl rfl ⟨(blk_cell BK303.out 0).trans rfl, (blk_cell BK303.out 1).trans rfl, (blk_cell BK302.out 0).trans rfl, (blk_cell BK309.out 0).trans rfl, (blk_cell BK309.out 1).trans rfl, (blk_cell BK309.out 2).trans rfl, (blk_cell BK309.out 3).trans rfl, (blk_cell BK309.out 4).trans rfl, (blk_cell BK309.out 5).trans rfl, (hc HB hw310_0), (hc HB hw310_1), (hc HB hw310_2), (hc HB hw310_3), (hc HB hw310_4), (hc HB hw310_5), (hc HB hw311_0), (hc HB hw311_1), (hc HB hw311_2)⟩ (fun hHeld => ?_); refine with_tabW spec_l5First.tab13 spec_l5First.bits13 (fun HT_ HW_ => ?_)
                      generalize wc.drew = w83 at BK302 BK303 BK304 BK305 BK309 HB HR311_2 hx310_0 hx310_1 hx310_2 hx310_3 hx310_4 hx310_5 hx311_0 hx311_1 hx311_2 hHeld ⊢
                      refine pu 0 59 (bl 18 1) ?_
                      refine pu 2 61 (bl 18 5) ?_
                      refine pu 5 64 (bl 18 37) ?_
                      refine pu 7 66 (bl 18 165) ?_
                      refine tk 1 60 (bl 18 167) ?_ hHeld
                      refine pu 3 62 (bl 18 175) ?_
                      refine tk 4 63 (bl 18 191) ?_ hHeld
                      refine tk 6 65 (bl 18 255) ?_ hHeld
                      refine pu 8 67 (bl 18 511) ?_
                      refine tk 9 68 (bl 18 1023) ?_ hHeld
                      refine tk 10 69 (bl 18 2047) ?_ hHeld
                      refine oe 11 70 (bl 18 4095) (fun K hK => ?_)
                      refine gs Try.func101 #[.agg #[.int .i64 ((rd_T105 l0_0 x10_1).f0), .int .i64 ((rd_T105 l0_0 x10_1).f1), .slice A311_2 ((rd_T105 l0_0 x10_1).f2).length c311_2], .agg #[.int .i64 ((rd_T101 ((rd_T105 l0_0 x10_1).f2) x11_2).f0), .int .i64 ((rd_T101 ((rd_T105 l0_0 x10_1).f2) x11_2).f1), .int .i64 ((rd_T101 ((rd_T105 l0_0 x10_1).f2) x11_2).f2), .int .i64 ((rd_T101 ((rd_T105 l0_0 x10_1).f2) x11_2).f3), .string ((rd_T101 ((rd_T105 l0_0 x10_1).f2) x11_2).f4), .int .i64 ((rd_T101 ((rd_T105 l0_0 x10_1).f2) x11_2).f5)]] ?_
                      with_reducible refine (spec_l5Box.calls ((rd_T105 l0_0 x10_1).f0) ((rd_T105 l0_0 x10_1).f1) _ _ ((rd_T105 l0_0 x10_1).f2) ((rd_T101 ((rd_T105 l0_0 x10_1).f2) x11_2).f0) ((rd_T101 ((rd_T105 l0_0 x10_1).f2) x11_2).f1) ((rd_T101 ((rd_T105 l0_0 x10_1).f2) x11_2).f2) ((rd_T101 ((rd_T105 l0_0 x10_1).f2) x11_2).f3) ((rd_T101 ((rd_T105 l0_0 x10_1).f2) x11_2).f4) ((rd_T101 ((rd_T105 l0_0 x10_1).f2) x11_2).f5) t312 t313 t314 t315 t316 t317 _ ?side1 ?side2 A52.out).mono ?_
                      (case side1 => exact sc HR311_2)
                      (case side2 => exact HC311_2.out)
                      rintro e w84 ⟨rfl, hb⟩
                      refine ⟨_, rfl, ?_⟩
                      have _ := bb (bk BK302) hb
                      have _ := bb (bk BK303) hb
                      have _ := bb (bk BK304) hb
                      have _ := bb (bk BK305) hb
                      have _ := bb (bk BK309) hb
                      have _ := bs hb
                      clear BK302 BK303 BK304 BK305 BK309 HB
                      rename_i BK302 BK303 BK304 BK305 BK309 HB
                      (try clear hb)
                      (try clear hb2)
                      (try clear hk)
                      (try clear hi)
                      refine hK.out _ _ ⟨(blk_cell BK303.out 0).trans rfl, (blk_cell BK303.out 1).trans rfl, (blk_cell BK302.out 0).trans rfl, (blk_cell BK309.out 0).trans rfl, (blk_cell BK309.out 1).trans rfl, (blk_cell BK309.out 2).trans rfl, (blk_cell BK309.out 3).trans rfl, (blk_cell BK309.out 4).trans rfl, (blk_cell BK309.out 5).trans rfl, (hc HB hw310_0), (hc HB hw310_1), (hc HB hw310_2), (hc HB hw310_3), (hc HB hw310_4), (hc HB hw310_5), (hc HB hw311_0), (hc HB hw311_1), (hc HB hw311_2)⟩ (fun hHeld => ?_)
                      clear hK K
                      refine nm 70 ?_
                      refine oe 12 71 (bl 18 8191) (fun K hK => ?_)
                      refine gs Try.func100 #[.agg #[.int .i64 ((rd_T95 l1_1 x13_3).f0), .int .i64 ((rd_T95 l1_1 x13_3).f1), .int .i64 ((rd_T95 l1_1 x13_3).f2), .int .i64 ((rd_T95 l1_1 x13_3).f3), .int .i64 ((rd_T95 l1_1 x13_3).f4), .int .i64 ((rd_T95 l1_1 x13_3).f5)], .agg #[.int .i64 t312, .int .i64 t313, .int .i64 t314, .int .i64 t315, .int .i64 t316, .int .i64 t317]] ?_
                      with_reducible refine (spec_ProbeClose.calls kj30 ((rd_T95 l1_1 x13_3).f0) ((rd_T95 l1_1 x13_3).f1) ((rd_T95 l1_1 x13_3).f2) ((rd_T95 l1_1 x13_3).f3) ((rd_T95 l1_1 x13_3).f4) ((rd_T95 l1_1 x13_3).f5) t312 t313 t314 t315 t316 t317 t318 true _ A53.out).mono ?_
                      rintro e w85 ⟨rfl, hb⟩
                      refine ⟨_, rfl, ?_⟩
                      have _ := bb (bk BK302) hb
                      have _ := bb (bk BK303) hb
                      have _ := bb (bk BK304) hb
                      have _ := bb (bk BK305) hb
                      have _ := bb (bk BK309) hb
                      have _ := bs hb
                      clear BK302 BK303 BK304 BK305 BK309 HB
                      rename_i BK302 BK303 BK304 BK305 BK309 HB
                      (try clear hb)
                      (try clear hb2)
                      (try clear hk)
                      (try clear hi)
                      refine hK.out _ _ ⟨(blk_cell BK303.out 0).trans rfl, (blk_cell BK303.out 1).trans rfl, (blk_cell BK302.out 0).trans rfl, (blk_cell BK309.out 0).trans rfl, (blk_cell BK309.out 1).trans rfl, (blk_cell BK309.out 2).trans rfl, (blk_cell BK309.out 3).trans rfl, (blk_cell BK309.out 4).trans rfl, (blk_cell BK309.out 5).trans rfl, (hc HB hw310_0), (hc HB hw310_1), (hc HB hw310_2), (hc HB hw310_3), (hc HB hw310_4), (hc HB hw310_5), (hc HB hw311_0), (hc HB hw311_1), (hc HB hw311_2)⟩ (fun hHeld => ?_)
                      clear hK K
                      refine nm 71 ?_
                      refine pu 13 58 (bl 18 16383) ?_
                      refine pu 14 72 (bl 18 32767) ?_
                      refine pu 15 73 (bl 18 65535) ?_
                      refine pu 16 14 (bl 18 131071) ?_
                      refine pu 17 15 (bl 18 262143) ?_
                      refine done_ (done_of HT_.out (by kernel_rfl)) ?_
                      have hnb86 := NB303_302.out
                      have hnc86 := NB302_303.out
                      have hnb87 := NB303_304.out
                      have hnc87 := NB304_303.out
                      have hnb88 := NB303_305.out
                      have hnc88 := NB305_303.out
                      have hnb89 := NB303_309.out
                      have hnc89 := NB309_303.out
                      obtain ⟨hcz90_0, hcz90_1, hfz90_0, hfz90_1⟩ := zc2 BK303
                      have hnb91 := NB309_302.out
                      have hnc91 := NB302_309.out
                      have hnb92 := NB309_304.out
                      have hnc92 := NB304_309.out
                      have hnb93 := NB309_305.out
                      have hnc93 := NB305_309.out
                      obtain ⟨hcz94_0, hcz94_1, hcz94_2, hcz94_3, hcz94_4, hcz94_5, hfz94_0, hfz94_1, hfz94_2, hfz94_3, hfz94_4, hfz94_5⟩ := zc6 BK309
                      try go_wp2_with (first | ((with_reducible refine gate_dst (N := 16) rfl ?_); refine be 16 #[.string (⟨#[]⟩ : ByteArray), .string (⟨#[]⟩ : ByteArray), .int .i64 0, .int .i64 0, .int .i64 0] 49 ?_; intro gb320 hg w95 hbox hb; have _ := bb (bk BK302) hb; have _ := bb (bk BK303) hb; have _ := bb (bk BK304) hb; have _ := bb (bk BK305) hb; have _ := bb (bk BK309) hb; have _ := bs hb; have _ := ra (hbox); have _ := bz (w0 := w) hg; have _ := bz (w0 := w) hg; have _ := bn hg (bk BK302); have _ := bm hg (bk BK302); have _ := bn hg (bk BK303); have _ := bm hg (bk BK303); have _ := bn hg (bk BK304); have _ := bm hg (bk BK304); have _ := bn hg (bk BK305); have _ := bm hg (bk BK305); have _ := bn hg (bk BK309); have _ := bm hg (bk BK309); clear BK302 BK303 BK304 BK305 BK309 HB; rename_i BK302 BK303 BK304 BK305 BK309 HB BK320 GW320 GE320 NB302_320 NB320_302 NB303_320 NB320_303 NB304_320 NB320_304 NB305_320 NB320_305 NB309_320 NB320_309; clear hb hbox hg; have hnb96 := NB320_302.out; have hnc96 := NB302_320.out; have hnb97 := NB320_303.out; have hnc97 := NB303_320.out; have hnb98 := NB320_304.out; have hnc98 := NB304_320.out; have hnb99 := NB320_305.out; have hnc99 := NB305_320.out; have hnb100 := NB320_309.out; have hnc100 := NB309_320.out; obtain ⟨hcz101_0, hcz101_1, hcz101_2, hcz101_3, hcz101_4, hfz101_0, hfz101_1, hfz101_2, hfz101_3, hfz101_4⟩ := zc5 BK320; have hnb102 := NB305_302.out; have hnc102 := NB302_305.out; have hnb103 := NB305_304.out; have hnc103 := NB304_305.out; obtain ⟨hcz104_0, hcz104_1, hcz104_2, hcz104_3, hcz104_4, hfz104_0, hfz104_1, hfz104_2, hfz104_3, hfz104_4⟩ := zc5 BK305) | (go_at_call 102; (with_reducible refine (spec_l5Sooner.calls a1_0 a2 t318 x13_3 ((rd_T101 ((rd_T105 l0_0 x10_1).f2) x11_2).f5) x306000_3 x306001_3 x306002_3 x306003_3 x306004_3 false _ A56.out).mono ?_); rintro e w105 ⟨rfl, hb⟩; have _ := bb (bk BK302) hb; have _ := bb (bk BK303) hb; have _ := bb (bk BK304) hb; have _ := bb (bk BK305) hb; have _ := bb (bk BK309) hb; have _ := bb (o := .cells #[.string a1_0, .string a2, .int .i64 t318, .int .i64 x13_3, .int .i64 ((rd_T101 ((rd_T105 l0_0 x10_1).f2) x11_2).f5)] 49 (0, 0)) (bp BK320) hb; have _ := bs hb; clear BK302 BK303 BK304 BK305 BK309 BK320 HB; rename_i BK302 BK303 BK304 BK305 BK309 BK320 HB; (try clear hb); (try clear hb2); (try clear hk); (try clear hi)))
                      go_roundg kj30
                      case measure => have := HK1.out; have := HK2.out; have := HK3.out; have := HJ30.out; omega
                      case rel => exact ⟨(true), (wrap64 (x13_3 + 1)), (x306000_3), (x306001_3), (x306002_3), (x306003_3), (x306004_3), rs, rs, H', ⟨by have := HK1.out; have := HK2.out; have := HK3.out; have := HJ30.out; omega⟩, ⟨bk BK302⟩, ⟨bk BK303⟩, ⟨bk BK304⟩, ⟨bk BK305⟩, ⟨bk BK309⟩, ⟨bq⟩⟩
                    ·replace c55 := Bool.eq_false_iff.mpr c55
                     subst c55
                     have H1 : (spec_l5First.l2 kj30 a2 true x10_1 x11_2 (wrap64 (x13_3 + 1)) l0_0 a1_0 l1_1 a1_0 a2 t318 x13_3 ((rd_T101 ((rd_T105 l0_0 x10_1).f2) x11_2).f5) ((rd_T101 ((rd_T105 l0_0 x10_1).f2) x11_2).f0) ((rd_T101 ((rd_T105 l0_0 x10_1).f2) x11_2).f1) ((rd_T101 ((rd_T105 l0_0 x10_1).f2) x11_2).f2) ((rd_T101 ((rd_T105 l0_0 x10_1).f2) x11_2).f3) ((rd_T101 ((rd_T105 l0_0 x10_1).f2) x11_2).f4) ((rd_T101 ((rd_T105 l0_0 x10_1).f2) x11_2).f5)) = some (r1, r2, r3, r4, r5, r6) := by rw [if_neg (show ¬ (false = true) by decide)] at H; exact H
                     clear H
                     have H := H1
                     clear H1
                     have H' := Aside0.mk H
                     clear H
                     try go_wp2
                     have _ := ra (blk_drew BK302.out)
                     have _ := ra (blk_drew BK303.out)
                     have _ := ra (blk_drew BK304.out)
                     have _ := ra (blk_drew BK305.out)
                     have _ := ra (blk_drew BK309.out)
                     have _ := ra (below_drew1 HB.out)
                     clear BK302 BK303 BK304 BK305 BK309 HB
                     rename_i BK302 BK303 BK304 BK305 BK309 HB
                     have p310 : 0 ≤ (x13_3 : Int) := od
                     have q310 : x13_3 < (l1_1.length : Int) := od
                     obtain ⟨ad310, e310, hx310_0, hx310_1, hx310_2, hx310_3, hx310_4, hx310_5⟩ := at_T95 HR1_1.out x13_3 p310 q310
                     have hw310_5 := hx310_5
                     have hw310_4 := hx310_4
                     have hw310_3 := hx310_3
                     have hw310_2 := hx310_2
                     have hw310_1 := hx310_1
                     have hw310_0 := hx310_0
                     cases e310
                     replace hx310_0 := hc HB hx310_0
                     replace hx310_1 := hc HB hx310_1
                     replace hx310_2 := hc HB hx310_2
                     replace hx310_3 := hc HB hx310_3
                     replace hx310_4 := hc HB hx310_4
                     replace hx310_5 := hc HB hx310_5
                     replace p310 := eq_true p310
                     replace q310 := eq_true q310
                     have p311 : 0 ≤ (x10_1 : Int) := od
                     have q311 : x10_1 < (l0_0.length : Int) := od
                     obtain ⟨ad311, A311_2, c311_2, e311, hx311_0, hx311_1, hx311_2, hl311_2, hi311_2⟩ := at_T105 HR0_0.out x10_1 p311 q311
                     have hw311_2 := hx311_2
                     have hw311_1 := hx311_1
                     have hw311_0 := hx311_0
                     obtain rfl : ad306 = ad311 := (by injection e311)
                     replace hx311_0 := hc HB hx311_0
                     replace hx311_1 := hc HB hx311_1
                     replace hx311_2 := hc HB hx311_2
                     have HR311_2 := Aside0.mk hi311_2
                     have HC311_2 := Aside0.mk hl311_2
                     clear hi311_2 hl311_2
                     replace p311 := eq_true p311
                     replace q311 := eq_true q311
                     refine start_ (n := 18) (S := fun w' => w'.cell? ⟨gb303, 0, none⟩ = some (.string a1_0) ∧ w'.cell? ⟨gb303, 1, none⟩ = some (.slice (some ad310) l1_1.length c1_1) ∧ w'.cell? ⟨gb302, 0, none⟩ = some (.slice (some ad306) l0_0.length c0_0) ∧ w'.cell? ⟨gb309, 0, none⟩ = some (.int .i64 ((rd_T101 ((rd_T105 l0_0 x10_1).f2) x11_2).f0)) ∧ w'.cell? ⟨gb309, 1, none⟩ = some (.int .i64 ((rd_T101 ((rd_T105 l0_0 x10_1).f2) x11_2).f1)) ∧ w'.cell? ⟨gb309, 2, none⟩ = some (.int .i64 ((rd_T101 ((rd_T105 l0_0 x10_1).f2) x11_2).f2)) ∧ w'.cell? ⟨gb309, 3, none⟩ = some (.int .i64 ((rd_T101 ((rd_T105 l0_0 x10_1).f2) x11_2).f3)) ∧ w'.cell? ⟨gb309, 4, none⟩ = some (.string ((rd_T101 ((rd_T105 l0_0 x10_1).f2) x11_2).f4)) ∧ w'.cell? ⟨gb309, 5, none⟩ = some (.int .i64 ((rd_T101 ((rd_T105 l0_0 x10_1).f2) x11_2).f5)) ∧ w'.cell? (ad310.add ((x13_3).toNat * 6)) = some (.int .i64 ((rd_T95 l1_1 x13_3).f0)) ∧ w'.cell? ⟨(ad310.add ((x13_3).toNat * 6)).block, (ad310.add ((x13_3).toNat * 6)).off + 1, none⟩ = some (.int .i64 ((rd_T95 l1_1 x13_3).f1)) ∧ w'.cell? ⟨(ad310.add ((x13_3).toNat * 6)).block, (ad310.add ((x13_3).toNat * 6)).off + 2, none⟩ = some (.int .i64 ((rd_T95 l1_1 x13_3).f2)) ∧ w'.cell? ⟨(ad310.add ((x13_3).toNat * 6)).block, (ad310.add ((x13_3).toNat * 6)).off + 3, none⟩ = some (.int .i64 ((rd_T95 l1_1 x13_3).f3)) ∧ w'.cell? ⟨(ad310.add ((x13_3).toNat * 6)).block, (ad310.add ((x13_3).toNat * 6)).off + 4, none⟩ = some (.int .i64 ((rd_T95 l1_1 x13_3).f4)) ∧ w'.cell? ⟨(ad310.add ((x13_3).toNat * 6)).block, (ad310.add ((x13_3).toNat * 6)).off + 5, none⟩ = some (.int .i64 ((rd_T95 l1_1 x13_3).f5)) ∧ w'.cell? (ad306.add ((x10_1).toNat * 3)) = some (.int .i64 ((rd_T105 l0_0 x10_1).f0)) ∧ w'.cell? ⟨(ad306.add ((x10_1).toNat * 3)).block, (ad306.add ((x10_1).toNat * 3)).off + 1, none⟩ = some (.int .i64 ((rd_T105 l0_0 x10_1).f1)) ∧ w'.cell? ⟨(ad306.add ((x10_1).toNat * 3)).block, (ad306.add ((x10_1).toNat * 3)).off + 2, none⟩ = some (.slice A311_2 ((rd_T105 l0_0 x10_1).f2).length c311_2)) (ds := []) (bl 18 0) (by kernel_rfl) rfl rfl ⟨(blk_cell BK303.out 0).trans rfl, (blk_cell BK303.out 1).trans rfl, (blk_cell BK302.out 0).trans rfl, (blk_cell BK309.out 0).trans rfl, (blk_cell BK309.out 1).trans rfl, (blk_cell BK309.out 2).trans rfl, (blk_cell BK309.out 3).trans rfl, (blk_cell BK309.out 4).trans rfl, (blk_cell BK309.out 5).trans rfl, (hc HB hw310_0), (hc HB hw310_1), (hc HB hw310_2), (hc HB hw310_3), (hc HB hw310_4), (hc HB hw310_5), (hc HB hw311_0), (hc HB hw311_1), (hc HB hw311_2)⟩ (fun hHeld => ?_); refine with_tabW spec_l5First.tab13 spec_l5First.bits13 (fun HT_ HW_ => ?_)
                     generalize wc.drew = w106 at BK302 BK303 BK304 BK305 BK309 HB HR311_2 hx310_0 hx310_1 hx310_2 hx310_3 hx310_4 hx310_5 hx311_0 hx311_1 hx311_2 hHeld ⊢
                     refine pu 0 59 (bl 18 1) ?_
                     refine pu 2 61 (bl 18 5) ?_
                     refine pu 5 64 (bl 18 37) ?_
                     refine pu 7 66 (bl 18 165) ?_
                     refine tk 1 60 (bl 18 167) ?_ hHeld
                     refine pu 3 62 (bl 18 175) ?_
                     refine tk 4 63 (bl 18 191) ?_ hHeld
                     refine tk 6 65 (bl 18 255) ?_ hHeld
                     refine pu 8 67 (bl 18 511) ?_
                     refine tk 9 68 (bl 18 1023) ?_ hHeld
                     refine tk 10 69 (bl 18 2047) ?_ hHeld
                     refine oe 11 70 (bl 18 4095) (fun K hK => ?_)
                     refine gs Try.func101 #[.agg #[.int .i64 ((rd_T105 l0_0 x10_1).f0), .int .i64 ((rd_T105 l0_0 x10_1).f1), .slice A311_2 ((rd_T105 l0_0 x10_1).f2).length c311_2], .agg #[.int .i64 ((rd_T101 ((rd_T105 l0_0 x10_1).f2) x11_2).f0), .int .i64 ((rd_T101 ((rd_T105 l0_0 x10_1).f2) x11_2).f1), .int .i64 ((rd_T101 ((rd_T105 l0_0 x10_1).f2) x11_2).f2), .int .i64 ((rd_T101 ((rd_T105 l0_0 x10_1).f2) x11_2).f3), .string ((rd_T101 ((rd_T105 l0_0 x10_1).f2) x11_2).f4), .int .i64 ((rd_T101 ((rd_T105 l0_0 x10_1).f2) x11_2).f5)]] ?_
                     with_reducible refine (spec_l5Box.calls ((rd_T105 l0_0 x10_1).f0) ((rd_T105 l0_0 x10_1).f1) _ _ ((rd_T105 l0_0 x10_1).f2) ((rd_T101 ((rd_T105 l0_0 x10_1).f2) x11_2).f0) ((rd_T101 ((rd_T105 l0_0 x10_1).f2) x11_2).f1) ((rd_T101 ((rd_T105 l0_0 x10_1).f2) x11_2).f2) ((rd_T101 ((rd_T105 l0_0 x10_1).f2) x11_2).f3) ((rd_T101 ((rd_T105 l0_0 x10_1).f2) x11_2).f4) ((rd_T101 ((rd_T105 l0_0 x10_1).f2) x11_2).f5) t312 t313 t314 t315 t316 t317 _ ?side1 ?side2 A52.out).mono ?_
                     (case side1 => exact sc HR311_2)
                     (case side2 => exact HC311_2.out)
                     rintro e w107 ⟨rfl, hb⟩
                     refine ⟨_, rfl, ?_⟩
                     have _ := bb (bk BK302) hb
                     have _ := bb (bk BK303) hb
                     have _ := bb (bk BK304) hb
                     have _ := bb (bk BK305) hb
                     have _ := bb (bk BK309) hb
                     have _ := bs hb
                     clear BK302 BK303 BK304 BK305 BK309 HB
                     rename_i BK302 BK303 BK304 BK305 BK309 HB
                     (try clear hb)
                     (try clear hb2)
                     (try clear hk)
                     (try clear hi)
                     refine hK.out _ _ ⟨(blk_cell BK303.out 0).trans rfl, (blk_cell BK303.out 1).trans rfl, (blk_cell BK302.out 0).trans rfl, (blk_cell BK309.out 0).trans rfl, (blk_cell BK309.out 1).trans rfl, (blk_cell BK309.out 2).trans rfl, (blk_cell BK309.out 3).trans rfl, (blk_cell BK309.out 4).trans rfl, (blk_cell BK309.out 5).trans rfl, (hc HB hw310_0), (hc HB hw310_1), (hc HB hw310_2), (hc HB hw310_3), (hc HB hw310_4), (hc HB hw310_5), (hc HB hw311_0), (hc HB hw311_1), (hc HB hw311_2)⟩ (fun hHeld => ?_)
                     clear hK K
                     refine nm 70 ?_
                     refine oe 12 71 (bl 18 8191) (fun K hK => ?_)
                     refine gs Try.func100 #[.agg #[.int .i64 ((rd_T95 l1_1 x13_3).f0), .int .i64 ((rd_T95 l1_1 x13_3).f1), .int .i64 ((rd_T95 l1_1 x13_3).f2), .int .i64 ((rd_T95 l1_1 x13_3).f3), .int .i64 ((rd_T95 l1_1 x13_3).f4), .int .i64 ((rd_T95 l1_1 x13_3).f5)], .agg #[.int .i64 t312, .int .i64 t313, .int .i64 t314, .int .i64 t315, .int .i64 t316, .int .i64 t317]] ?_
                     with_reducible refine (spec_ProbeClose.calls kj30 ((rd_T95 l1_1 x13_3).f0) ((rd_T95 l1_1 x13_3).f1) ((rd_T95 l1_1 x13_3).f2) ((rd_T95 l1_1 x13_3).f3) ((rd_T95 l1_1 x13_3).f4) ((rd_T95 l1_1 x13_3).f5) t312 t313 t314 t315 t316 t317 t318 true _ A53.out).mono ?_
                     rintro e w108 ⟨rfl, hb⟩
                     refine ⟨_, rfl, ?_⟩
                     have _ := bb (bk BK302) hb
                     have _ := bb (bk BK303) hb
                     have _ := bb (bk BK304) hb
                     have _ := bb (bk BK305) hb
                     have _ := bb (bk BK309) hb
                     have _ := bs hb
                     clear BK302 BK303 BK304 BK305 BK309 HB
                     rename_i BK302 BK303 BK304 BK305 BK309 HB
                     (try clear hb)
                     (try clear hb2)
                     (try clear hk)
                     (try clear hi)
                     refine hK.out _ _ ⟨(blk_cell BK303.out 0).trans rfl, (blk_cell BK303.out 1).trans rfl, (blk_cell BK302.out 0).trans rfl, (blk_cell BK309.out 0).trans rfl, (blk_cell BK309.out 1).trans rfl, (blk_cell BK309.out 2).trans rfl, (blk_cell BK309.out 3).trans rfl, (blk_cell BK309.out 4).trans rfl, (blk_cell BK309.out 5).trans rfl, (hc HB hw310_0), (hc HB hw310_1), (hc HB hw310_2), (hc HB hw310_3), (hc HB hw310_4), (hc HB hw310_5), (hc HB hw311_0), (hc HB hw311_1), (hc HB hw311_2)⟩ (fun hHeld => ?_)
                     clear hK K
                     refine nm 71 ?_
                     refine pu 13 58 (bl 18 16383) ?_
                     refine pu 14 72 (bl 18 32767) ?_
                     refine pu 15 73 (bl 18 65535) ?_
                     refine pu 16 14 (bl 18 131071) ?_
                     refine pu 17 15 (bl 18 262143) ?_
                     refine done_ (done_of HT_.out (by kernel_rfl)) ?_
                     have hnb109 := NB303_302.out
                     have hnc109 := NB302_303.out
                     have hnb110 := NB303_304.out
                     have hnc110 := NB304_303.out
                     have hnb111 := NB303_305.out
                     have hnc111 := NB305_303.out
                     have hnb112 := NB303_309.out
                     have hnc112 := NB309_303.out
                     obtain ⟨hcz113_0, hcz113_1, hfz113_0, hfz113_1⟩ := zc2 BK303
                     have hnb114 := NB309_302.out
                     have hnc114 := NB302_309.out
                     have hnb115 := NB309_304.out
                     have hnc115 := NB304_309.out
                     have hnb116 := NB309_305.out
                     have hnc116 := NB305_309.out
                     obtain ⟨hcz117_0, hcz117_1, hcz117_2, hcz117_3, hcz117_4, hcz117_5, hfz117_0, hfz117_1, hfz117_2, hfz117_3, hfz117_4, hfz117_5⟩ := zc6 BK309
                     try go_wp2_with (first | ((with_reducible refine gate_dst (N := 16) rfl ?_); refine be 16 #[.string (⟨#[]⟩ : ByteArray), .string (⟨#[]⟩ : ByteArray), .int .i64 0, .int .i64 0, .int .i64 0] 49 ?_; intro gb320 hg w118 hbox hb; have _ := bb (bk BK302) hb; have _ := bb (bk BK303) hb; have _ := bb (bk BK304) hb; have _ := bb (bk BK305) hb; have _ := bb (bk BK309) hb; have _ := bs hb; have _ := ra (hbox); have _ := bz (w0 := w) hg; have _ := bz (w0 := w) hg; have _ := bn hg (bk BK302); have _ := bm hg (bk BK302); have _ := bn hg (bk BK303); have _ := bm hg (bk BK303); have _ := bn hg (bk BK304); have _ := bm hg (bk BK304); have _ := bn hg (bk BK305); have _ := bm hg (bk BK305); have _ := bn hg (bk BK309); have _ := bm hg (bk BK309); clear BK302 BK303 BK304 BK305 BK309 HB; rename_i BK302 BK303 BK304 BK305 BK309 HB BK320 GW320 GE320 NB302_320 NB320_302 NB303_320 NB320_303 NB304_320 NB320_304 NB305_320 NB320_305 NB309_320 NB320_309; clear hb hbox hg; have hnb119 := NB320_302.out; have hnc119 := NB302_320.out; have hnb120 := NB320_303.out; have hnc120 := NB303_320.out; have hnb121 := NB320_304.out; have hnc121 := NB304_320.out; have hnb122 := NB320_305.out; have hnc122 := NB305_320.out; have hnb123 := NB320_309.out; have hnc123 := NB309_320.out; obtain ⟨hcz124_0, hcz124_1, hcz124_2, hcz124_3, hcz124_4, hfz124_0, hfz124_1, hfz124_2, hfz124_3, hfz124_4⟩ := zc5 BK320; have hnb125 := NB305_302.out; have hnc125 := NB302_305.out; have hnb126 := NB305_304.out; have hnc126 := NB304_305.out; obtain ⟨hcz127_0, hcz127_1, hcz127_2, hcz127_3, hcz127_4, hfz127_0, hfz127_1, hfz127_2, hfz127_3, hfz127_4⟩ := zc5 BK305))
                     go_roundg kj30
                     case measure => have := HK1.out; have := HK2.out; have := HK3.out; have := HJ30.out; omega
                     case rel => exact ⟨(true), (wrap64 (x13_3 + 1)), (a1_0), (a2), (t318), (x13_3), (((rd_T101 ((rd_T105 l0_0 x10_1).f2) x11_2).f5)), rs, rs, H', ⟨by have := HK1.out; have := HK2.out; have := HK3.out; have := HJ30.out; omega⟩, ⟨bk BK302⟩, ⟨bk BK303⟩, ⟨bk BK304⟩, ⟨bp BK305⟩, ⟨bk BK309⟩, ⟨bq⟩⟩
                   ·replace c54 := Bool.eq_false_iff.mpr c54
                    subst c54
                    have H1 : (spec_l5First.l2 kj30 a2 x9_3 x10_1 x11_2 (wrap64 (x13_3 + 1)) l0_0 a1_0 l1_1 x306000_3 x306001_3 x306002_3 x306003_3 x306004_3 ((rd_T101 ((rd_T105 l0_0 x10_1).f2) x11_2).f0) ((rd_T101 ((rd_T105 l0_0 x10_1).f2) x11_2).f1) ((rd_T101 ((rd_T105 l0_0 x10_1).f2) x11_2).f2) ((rd_T101 ((rd_T105 l0_0 x10_1).f2) x11_2).f3) ((rd_T101 ((rd_T105 l0_0 x10_1).f2) x11_2).f4) ((rd_T101 ((rd_T105 l0_0 x10_1).f2) x11_2).f5)) = some (r1, r2, r3, r4, r5, r6) := by rw [if_neg (show ¬ (false = true) by decide)] at H; exact H
                    clear H
                    have H := H1
                    clear H1
                    have H' := Aside0.mk H
                    clear H
                    try go_wp2
                    have _ := ra (blk_drew BK302.out)
                    have _ := ra (blk_drew BK303.out)
                    have _ := ra (blk_drew BK304.out)
                    have _ := ra (blk_drew BK305.out)
                    have _ := ra (blk_drew BK309.out)
                    have _ := ra (below_drew1 HB.out)
                    clear BK302 BK303 BK304 BK305 BK309 HB
                    rename_i BK302 BK303 BK304 BK305 BK309 HB
                    have p310 : 0 ≤ (x13_3 : Int) := od
                    have q310 : x13_3 < (l1_1.length : Int) := od
                    obtain ⟨ad310, e310, hx310_0, hx310_1, hx310_2, hx310_3, hx310_4, hx310_5⟩ := at_T95 HR1_1.out x13_3 p310 q310
                    have hw310_5 := hx310_5
                    have hw310_4 := hx310_4
                    have hw310_3 := hx310_3
                    have hw310_2 := hx310_2
                    have hw310_1 := hx310_1
                    have hw310_0 := hx310_0
                    cases e310
                    replace hx310_0 := hc HB hx310_0
                    replace hx310_1 := hc HB hx310_1
                    replace hx310_2 := hc HB hx310_2
                    replace hx310_3 := hc HB hx310_3
                    replace hx310_4 := hc HB hx310_4
                    replace hx310_5 := hc HB hx310_5
                    replace p310 := eq_true p310
                    replace q310 := eq_true q310
                    have p311 : 0 ≤ (x10_1 : Int) := od
                    have q311 : x10_1 < (l0_0.length : Int) := od
                    obtain ⟨ad311, A311_2, c311_2, e311, hx311_0, hx311_1, hx311_2, hl311_2, hi311_2⟩ := at_T105 HR0_0.out x10_1 p311 q311
                    have hw311_2 := hx311_2
                    have hw311_1 := hx311_1
                    have hw311_0 := hx311_0
                    obtain rfl : ad306 = ad311 := (by injection e311)
                    replace hx311_0 := hc HB hx311_0
                    replace hx311_1 := hc HB hx311_1
                    replace hx311_2 := hc HB hx311_2
                    have HR311_2 := Aside0.mk hi311_2
                    have HC311_2 := Aside0.mk hl311_2
                    clear hi311_2 hl311_2
                    replace p311 := eq_true p311
                    replace q311 := eq_true q311
                    refine start_ (n := 18) (S := fun w' => w'.cell? ⟨gb303, 0, none⟩ = some (.string a1_0) ∧ w'.cell? ⟨gb303, 1, none⟩ = some (.slice (some ad310) l1_1.length c1_1) ∧ w'.cell? ⟨gb302, 0, none⟩ = some (.slice (some ad306) l0_0.length c0_0) ∧ w'.cell? ⟨gb309, 0, none⟩ = some (.int .i64 ((rd_T101 ((rd_T105 l0_0 x10_1).f2) x11_2).f0)) ∧ w'.cell? ⟨gb309, 1, none⟩ = some (.int .i64 ((rd_T101 ((rd_T105 l0_0 x10_1).f2) x11_2).f1)) ∧ w'.cell? ⟨gb309, 2, none⟩ = some (.int .i64 ((rd_T101 ((rd_T105 l0_0 x10_1).f2) x11_2).f2)) ∧ w'.cell? ⟨gb309, 3, none⟩ = some (.int .i64 ((rd_T101 ((rd_T105 l0_0 x10_1).f2) x11_2).f3)) ∧ w'.cell? ⟨gb309, 4, none⟩ = some (.string ((rd_T101 ((rd_T105 l0_0 x10_1).f2) x11_2).f4)) ∧ w'.cell? ⟨gb309, 5, none⟩ = some (.int .i64 ((rd_T101 ((rd_T105 l0_0 x10_1).f2) x11_2).f5)) ∧ w'.cell? (ad310.add ((x13_3).toNat * 6)) = some (.int .i64 ((rd_T95 l1_1 x13_3).f0)) ∧ w'.cell? ⟨(ad310.add ((x13_3).toNat * 6)).block, (ad310.add ((x13_3).toNat * 6)).off + 1, none⟩ = some (.int .i64 ((rd_T95 l1_1 x13_3).f1)) ∧ w'.cell? ⟨(ad310.add ((x13_3).toNat * 6)).block, (ad310.add ((x13_3).toNat * 6)).off + 2, none⟩ = some (.int .i64 ((rd_T95 l1_1 x13_3).f2)) ∧ w'.cell? ⟨(ad310.add ((x13_3).toNat * 6)).block, (ad310.add ((x13_3).toNat * 6)).off + 3, none⟩ = some (.int .i64 ((rd_T95 l1_1 x13_3).f3)) ∧ w'.cell? ⟨(ad310.add ((x13_3).toNat * 6)).block, (ad310.add ((x13_3).toNat * 6)).off + 4, none⟩ = some (.int .i64 ((rd_T95 l1_1 x13_3).f4)) ∧ w'.cell? ⟨(ad310.add ((x13_3).toNat * 6)).block, (ad310.add ((x13_3).toNat * 6)).off + 5, none⟩ = some (.int .i64 ((rd_T95 l1_1 x13_3).f5)) ∧ w'.cell? (ad306.add ((x10_1).toNat * 3)) = some (.int .i64 ((rd_T105 l0_0 x10_1).f0)) ∧ w'.cell? ⟨(ad306.add ((x10_1).toNat * 3)).block, (ad306.add ((x10_1).toNat * 3)).off + 1, none⟩ = some (.int .i64 ((rd_T105 l0_0 x10_1).f1)) ∧ w'.cell? ⟨(ad306.add ((x10_1).toNat * 3)).block, (ad306.add ((x10_1).toNat * 3)).off + 2, none⟩ = some (.slice A311_2 ((rd_T105 l0_0 x10_1).f2).length c311_2)) (ds := []) (bl 18 0) (by kernel_rfl) rfl rfl ⟨(blk_cell BK303.out 0).trans rfl, (blk_cell BK303.out 1).trans rfl, (blk_cell BK302.out 0).trans rfl, (blk_cell BK309.out 0).trans rfl, (blk_cell BK309.out 1).trans rfl, (blk_cell BK309.out 2).trans rfl, (blk_cell BK309.out 3).trans rfl, (blk_cell BK309.out 4).trans rfl, (blk_cell BK309.out 5).trans rfl, (hc HB hw310_0), (hc HB hw310_1), (hc HB hw310_2), (hc HB hw310_3), (hc HB hw310_4), (hc HB hw310_5), (hc HB hw311_0), (hc HB hw311_1), (hc HB hw311_2)⟩ (fun hHeld => ?_); refine with_tabW spec_l5First.tab13 spec_l5First.bits13 (fun HT_ HW_ => ?_)
                    generalize wc.drew = w128 at BK302 BK303 BK304 BK305 BK309 HB HR311_2 hx310_0 hx310_1 hx310_2 hx310_3 hx310_4 hx310_5 hx311_0 hx311_1 hx311_2 hHeld ⊢
                    refine pu 0 59 (bl 18 1) ?_
                    refine pu 2 61 (bl 18 5) ?_
                    refine pu 5 64 (bl 18 37) ?_
                    refine pu 7 66 (bl 18 165) ?_
                    refine tk 1 60 (bl 18 167) ?_ hHeld
                    refine pu 3 62 (bl 18 175) ?_
                    refine tk 4 63 (bl 18 191) ?_ hHeld
                    refine tk 6 65 (bl 18 255) ?_ hHeld
                    refine pu 8 67 (bl 18 511) ?_
                    refine tk 9 68 (bl 18 1023) ?_ hHeld
                    refine tk 10 69 (bl 18 2047) ?_ hHeld
                    refine oe 11 70 (bl 18 4095) (fun K hK => ?_)
                    refine gs Try.func101 #[.agg #[.int .i64 ((rd_T105 l0_0 x10_1).f0), .int .i64 ((rd_T105 l0_0 x10_1).f1), .slice A311_2 ((rd_T105 l0_0 x10_1).f2).length c311_2], .agg #[.int .i64 ((rd_T101 ((rd_T105 l0_0 x10_1).f2) x11_2).f0), .int .i64 ((rd_T101 ((rd_T105 l0_0 x10_1).f2) x11_2).f1), .int .i64 ((rd_T101 ((rd_T105 l0_0 x10_1).f2) x11_2).f2), .int .i64 ((rd_T101 ((rd_T105 l0_0 x10_1).f2) x11_2).f3), .string ((rd_T101 ((rd_T105 l0_0 x10_1).f2) x11_2).f4), .int .i64 ((rd_T101 ((rd_T105 l0_0 x10_1).f2) x11_2).f5)]] ?_
                    with_reducible refine (spec_l5Box.calls ((rd_T105 l0_0 x10_1).f0) ((rd_T105 l0_0 x10_1).f1) _ _ ((rd_T105 l0_0 x10_1).f2) ((rd_T101 ((rd_T105 l0_0 x10_1).f2) x11_2).f0) ((rd_T101 ((rd_T105 l0_0 x10_1).f2) x11_2).f1) ((rd_T101 ((rd_T105 l0_0 x10_1).f2) x11_2).f2) ((rd_T101 ((rd_T105 l0_0 x10_1).f2) x11_2).f3) ((rd_T101 ((rd_T105 l0_0 x10_1).f2) x11_2).f4) ((rd_T101 ((rd_T105 l0_0 x10_1).f2) x11_2).f5) t312 t313 t314 t315 t316 t317 _ ?side1 ?side2 A52.out).mono ?_
                    (case side1 => exact sc HR311_2)
                    (case side2 => exact HC311_2.out)
                    rintro e w129 ⟨rfl, hb⟩
                    refine ⟨_, rfl, ?_⟩
                    have _ := bb (bk BK302) hb
                    have _ := bb (bk BK303) hb
                    have _ := bb (bk BK304) hb
                    have _ := bb (bk BK305) hb
                    have _ := bb (bk BK309) hb
                    have _ := bs hb
                    clear BK302 BK303 BK304 BK305 BK309 HB
                    rename_i BK302 BK303 BK304 BK305 BK309 HB
                    (try clear hb)
                    (try clear hb2)
                    (try clear hk)
                    (try clear hi)
                    refine hK.out _ _ ⟨(blk_cell BK303.out 0).trans rfl, (blk_cell BK303.out 1).trans rfl, (blk_cell BK302.out 0).trans rfl, (blk_cell BK309.out 0).trans rfl, (blk_cell BK309.out 1).trans rfl, (blk_cell BK309.out 2).trans rfl, (blk_cell BK309.out 3).trans rfl, (blk_cell BK309.out 4).trans rfl, (blk_cell BK309.out 5).trans rfl, (hc HB hw310_0), (hc HB hw310_1), (hc HB hw310_2), (hc HB hw310_3), (hc HB hw310_4), (hc HB hw310_5), (hc HB hw311_0), (hc HB hw311_1), (hc HB hw311_2)⟩ (fun hHeld => ?_)
                    clear hK K
                    refine nm 70 ?_
                    refine oe 12 71 (bl 18 8191) (fun K hK => ?_)
                    refine gs Try.func100 #[.agg #[.int .i64 ((rd_T95 l1_1 x13_3).f0), .int .i64 ((rd_T95 l1_1 x13_3).f1), .int .i64 ((rd_T95 l1_1 x13_3).f2), .int .i64 ((rd_T95 l1_1 x13_3).f3), .int .i64 ((rd_T95 l1_1 x13_3).f4), .int .i64 ((rd_T95 l1_1 x13_3).f5)], .agg #[.int .i64 t312, .int .i64 t313, .int .i64 t314, .int .i64 t315, .int .i64 t316, .int .i64 t317]] ?_
                    with_reducible refine (spec_ProbeClose.calls kj30 ((rd_T95 l1_1 x13_3).f0) ((rd_T95 l1_1 x13_3).f1) ((rd_T95 l1_1 x13_3).f2) ((rd_T95 l1_1 x13_3).f3) ((rd_T95 l1_1 x13_3).f4) ((rd_T95 l1_1 x13_3).f5) t312 t313 t314 t315 t316 t317 t318 false _ A53.out).mono ?_
                    rintro e w130 ⟨rfl, hb⟩
                    refine ⟨_, rfl, ?_⟩
                    have _ := bb (bk BK302) hb
                    have _ := bb (bk BK303) hb
                    have _ := bb (bk BK304) hb
                    have _ := bb (bk BK305) hb
                    have _ := bb (bk BK309) hb
                    have _ := bs hb
                    clear BK302 BK303 BK304 BK305 BK309 HB
                    rename_i BK302 BK303 BK304 BK305 BK309 HB
                    (try clear hb)
                    (try clear hb2)
                    (try clear hk)
                    (try clear hi)
                    refine hK.out _ _ ⟨(blk_cell BK303.out 0).trans rfl, (blk_cell BK303.out 1).trans rfl, (blk_cell BK302.out 0).trans rfl, (blk_cell BK309.out 0).trans rfl, (blk_cell BK309.out 1).trans rfl, (blk_cell BK309.out 2).trans rfl, (blk_cell BK309.out 3).trans rfl, (blk_cell BK309.out 4).trans rfl, (blk_cell BK309.out 5).trans rfl, (hc HB hw310_0), (hc HB hw310_1), (hc HB hw310_2), (hc HB hw310_3), (hc HB hw310_4), (hc HB hw310_5), (hc HB hw311_0), (hc HB hw311_1), (hc HB hw311_2)⟩ (fun hHeld => ?_)
                    clear hK K
                    refine nm 71 ?_
                    refine pu 13 58 (bl 18 16383) ?_
                    refine pu 14 72 (bl 18 32767) ?_
                    refine pu 15 73 (bl 18 65535) ?_
                    refine pu 16 14 (bl 18 131071) ?_
                    refine pu 17 15 (bl 18 262143) ?_
                    refine done_ (done_of HT_.out (by kernel_rfl)) ?_
                    have hnb131 := NB303_302.out
                    have hnc131 := NB302_303.out
                    have hnb132 := NB303_304.out
                    have hnc132 := NB304_303.out
                    have hnb133 := NB303_305.out
                    have hnc133 := NB305_303.out
                    have hnb134 := NB303_309.out
                    have hnc134 := NB309_303.out
                    obtain ⟨hcz135_0, hcz135_1, hfz135_0, hfz135_1⟩ := zc2 BK303
                    have hnb136 := NB309_302.out
                    have hnc136 := NB302_309.out
                    have hnb137 := NB309_304.out
                    have hnc137 := NB304_309.out
                    have hnb138 := NB309_305.out
                    have hnc138 := NB305_309.out
                    obtain ⟨hcz139_0, hcz139_1, hcz139_2, hcz139_3, hcz139_4, hcz139_5, hfz139_0, hfz139_1, hfz139_2, hfz139_3, hfz139_4, hfz139_5⟩ := zc6 BK309
                    try go_wp2_with (first | ((with_reducible refine gate_dst (N := 16) rfl ?_); refine be 16 #[.string (⟨#[]⟩ : ByteArray), .string (⟨#[]⟩ : ByteArray), .int .i64 0, .int .i64 0, .int .i64 0] 49 ?_; intro gb320 hg w140 hbox hb; have _ := bb (bk BK302) hb; have _ := bb (bk BK303) hb; have _ := bb (bk BK304) hb; have _ := bb (bk BK305) hb; have _ := bb (bk BK309) hb; have _ := bs hb; have _ := ra (hbox); have _ := bz (w0 := w) hg; have _ := bz (w0 := w) hg; have _ := bn hg (bk BK302); have _ := bm hg (bk BK302); have _ := bn hg (bk BK303); have _ := bm hg (bk BK303); have _ := bn hg (bk BK304); have _ := bm hg (bk BK304); have _ := bn hg (bk BK305); have _ := bm hg (bk BK305); have _ := bn hg (bk BK309); have _ := bm hg (bk BK309); clear BK302 BK303 BK304 BK305 BK309 HB; rename_i BK302 BK303 BK304 BK305 BK309 HB BK320 GW320 GE320 NB302_320 NB320_302 NB303_320 NB320_303 NB304_320 NB320_304 NB305_320 NB320_305 NB309_320 NB320_309; clear hb hbox hg; have hnb141 := NB320_302.out; have hnc141 := NB302_320.out; have hnb142 := NB320_303.out; have hnc142 := NB303_320.out; have hnb143 := NB320_304.out; have hnc143 := NB304_320.out; have hnb144 := NB320_305.out; have hnc144 := NB305_320.out; have hnb145 := NB320_309.out; have hnc145 := NB309_320.out; obtain ⟨hcz146_0, hcz146_1, hcz146_2, hcz146_3, hcz146_4, hfz146_0, hfz146_1, hfz146_2, hfz146_3, hfz146_4⟩ := zc5 BK320))
                    go_roundg kj30
                    case measure => have := HK1.out; have := HK2.out; have := HK3.out; have := HJ30.out; omega
                    case rel => exact ⟨(x9_3), (wrap64 (x13_3 + 1)), (x306000_3), (x306001_3), (x306002_3), (x306003_3), (x306004_3), rs, rs, H', ⟨by have := HK1.out; have := HK2.out; have := HK3.out; have := HJ30.out; omega⟩, ⟨bk BK302⟩, ⟨bk BK303⟩, ⟨bk BK304⟩, ⟨bk BK305⟩, ⟨bk BK309⟩, ⟨bq⟩⟩
                  ·rw [if_neg c51] at H
                   exact absurd H (by simp)
                 ·rw [if_neg c50] at H
                  exact absurd H (by simp)
                ·rw [if_neg c49] at H
                 exact absurd H (by simp)
               ·rw [if_neg c48] at H
                exact absurd H (by simp)
              ·replace c47 := Bool.eq_false_iff.mpr c47
               subst c47
               have H1 : (spec_l5First.l1 kj30 a2 x9_3 x10_1 (wrap64 (x11_2 + 1)) l0_0 a1_0 l1_1 x306000_3 x306001_3 x306002_3 x306003_3 x306004_3) = some (r1, r2, r3, r4, r5, r6) := by rw [if_neg (show ¬ (false = true) by decide)] at H; exact H
               clear H
               have H := H1
               clear H1
               have H' := Aside0.mk H
               clear H
               go_wp2
               go_roundg kj30
               case measure => have := HK1.out; have := HK2.out; have := HK3.out; have := HJ30.out; omega
               case rel => exact ⟨(x9_3), (wrap64 (x11_2 + 1)), (x306000_3), (x306001_3), (x306002_3), (x306003_3), (x306004_3), rs, rs, H', ⟨by have := HK1.out; have := HK2.out; have := HK3.out; have := HJ30.out; omega⟩, ⟨bk BK302⟩, ⟨bk BK303⟩, ⟨bk BK304⟩, ⟨bk BK305⟩, ⟨bq⟩⟩
         ·rw [if_neg c20] at H
          exact absurd H (by simp)
        ·rw [if_neg c19] at H
         have c19b0 : decide (x11_2 < (((rd_T105 l0_0 x10_1).f2).length : Int)) = false := decide_eq_false c19
         clear c19
         have H' := Aside0.mk H
         clear H
         have hnb147 := NB302_303.out
         have hnc147 := NB303_302.out
         have hnb148 := NB302_304.out
         have hnc148 := NB304_302.out
         have hnb149 := NB302_305.out
         have hnc149 := NB305_302.out
         obtain ⟨hcz150_0, hfz150_0⟩ := zc1 BK302
         have p306 : 0 ≤ (x10_1 : Int) := od
         have q306 : x10_1 < (l0_0.length : Int) := od
         obtain ⟨ad306, A306_2, c306_2, e306, hx306_0, hx306_1, hx306_2, hl306_2, hi306_2⟩ := at_T105 HR0_0.out x10_1 p306 q306
         cases e306
         replace hx306_0 := hc HB hx306_0
         replace hx306_1 := hc HB hx306_1
         replace hx306_2 := hc HB hx306_2
         have HR306_2 := Aside0.mk hi306_2
         have HC306_2 := Aside0.mk hl306_2
         clear hi306_2 hl306_2
         replace p306 := eq_true p306
         replace q306 := eq_true q306
         go_wp2
         go_roundg k2
         case measure => have := HK1.out; have := HK2.out; omega
         case rel => exact ⟨(x9_2), (wrap64 (x10_1 + 1)), (x306000_2), (x306001_2), (x306002_2), (x306003_2), (x306004_2), rs, rs, H', ⟨by have := HK1.out; have := HK2.out; omega⟩, ⟨bk BK302⟩, ⟨bk BK303⟩, ⟨bk BK304⟩, ⟨bk BK305⟩, ⟨bq⟩⟩
       ·rw [if_neg c18] at H
        exact absurd H (by simp)
      ·rw [if_neg c17] at H
       exact absurd H (by simp)
   ·rw [if_neg c12] at H
    have c12b0 : decide (x10_1 < (l0_0.length : Int)) = false := decide_eq_false c12
    clear c12
    simp only [Option.some.injEq, Prod.mk.injEq] at H
    obtain ⟨rfl, rfl, rfl, rfl, rfl, rfl⟩ := H
    have hnb151 := NB302_303.out
    have hnc151 := NB303_302.out
    have hnb152 := NB302_304.out
    have hnc152 := NB304_302.out
    have hnb153 := NB302_305.out
    have hnc153 := NB305_302.out
    obtain ⟨hcz154_0, hfz154_0⟩ := zc1 BK302
    have hnb155 := NB305_303.out
    have hnc155 := NB303_305.out
    have hnb156 := NB305_304.out
    have hnc156 := NB304_305.out
    obtain ⟨hcz157_0, hcz157_1, hcz157_2, hcz157_3, hcz157_4, hfz157_0, hfz157_1, hfz157_2, hfz157_3, hfz157_4⟩ := zc5 BK305
    have hnb158 := NB304_303.out
    have hnc158 := NB303_304.out
    obtain ⟨hcz159_0, hcz159_1, hcz159_2, hcz159_3, hcz159_4, hfz159_0, hfz159_1, hfz159_2, hfz159_3, hfz159_4⟩ := zc5 BK304
    go_wp2
    refine bodyPost_ret (results_ct rfl _ _ gb304 49 #[.string x306000_1, .string x306001_1, .int .i64 x306002_1, .int .i64 x306003_1, .int .i64 x306004_1] (0, 0) _ rfl (bp BK304) Try.underlying49 rfl (by kernel_rfl)) rfl ?_
    exact ⟨re, bq⟩
def spec_ProbeAsk.T8 : Bool × List (List Nat × List Nat) := (true, [([], []), ([], []), ([], []), ([], []), ([2, 3], [2, 3]), ([4], [4]), ([0, 1, 5], [0, 1, 5]), ([6], [6]), ([7], [7]), ([7], [7]), ([], []), ([10, 8, 6, 0, 1, 2, 3, 4, 5, 6, 7, 8, 10], [8, 10]), ([9, 11, 0, 1, 2, 3, 4, 5, 6, 7, 8, 9, 10, 11], [9])])
def spec_ProbeAsk.B8 : List Nat := [0, 0, 0, 0, 12, 28, 63, 127, 255, 255, 0, 1535, 4095]
theorem spec_ProbeAsk.tab8 : rtab .any (opsOf Try.f42 8) = spec_ProbeAsk.T8 := by kernel_rfl
theorem spec_ProbeAsk.bits8 : waitsOk spec_ProbeAsk.T8.2 spec_ProbeAsk.B8 = true := by kernel_rfl
def spec_ProbeAsk.T9 : Bool × List (List Nat × List Nat) := (true, [([], []), ([0], [0]), ([1], [1]), ([1], [1]), ([2, 3, 1], [1, 2, 3]), ([4, 1], [1, 4]), ([1], [1]), ([6, 1], [1, 6]), ([5, 7, 1], [1, 5, 7]), ([1, 8], [1, 8])])
def spec_ProbeAsk.B9 : List Nat := [0, 1, 3, 3, 15, 31, 3, 67, 255, 511]
theorem spec_ProbeAsk.tab9 : rtab .any (opsOf Try.f42 9) = spec_ProbeAsk.T9 := by kernel_rfl
theorem spec_ProbeAsk.bits9 : waitsOk spec_ProbeAsk.T9.2 spec_ProbeAsk.B9 = true := by kernel_rfl
set_option maxHeartbeats 8000000 in
set_option maxRecDepth 100000 in
theorem spec_ProbeAsk.calls (k : Nat) (A0_0 : Option Addr) (c0_0 : Nat) (l0_0 : List (S105)) (a1_0 : ByteArray) (A1_1 : Option Addr) (c1_1 : Nat) (l1_1 : List (S95)) (r : List (S49)) (w : World) (hr0_0 : Kd.C k105 w A0_0 l0_0.length l0_0) (hc0_0 : l0_0.length ≤ c0_0) (hr1_1 : Kd.C k95 w A1_1 l1_1.length l1_1) (hc1_1 : l1_1.length ≤ c1_1) (h : spec_ProbeAsk.f k l0_0 a1_0 l1_1 = some r) :
  Calls Try.prog 42 #[.agg #[.slice A0_0 l0_0.length c0_0], .agg #[.string a1_0, .slice A1_1 l1_1.length c1_1]] w fun e w' => ∃ v0_ : Value, e = .returned (v0_) ∧ Kd.R k49 49 w' w.heap.size (fun _ => True) v0_ r ∧ Below w.heap.size w w' := by
 have hu65 := Try.underlying65
 have hu40 := Try.underlying40
 have hu49 := Try.underlying49
 have HR0_0 := Aside0.mk hr0_0
 have HC0_0 := Aside0.mk hc0_0
 clear hr0_0 hc0_0
 have HR1_1 := Aside0.mk hr1_1
 have HC1_1 := Aside0.mk hc1_1
 clear hr1_1 hc1_1
 have HB := ra (Below.refl w.heap.size w)
 have H : ((some (([] : List (S49)) : List (S49))).bind fun y324 => ((spec_ProbeTubeOk.f k a1_0 l1_1).bind fun t327 => (if t327 = true then ((spec_l5Names.f k l0_0).bind fun t328 => (spec_ProbeAsk.l0 k y324 t328 0 l0_0 a1_0 l1_1)) else (some y324)))) = some r := h
 clear h
 obtain ⟨y324, hy_⟩ : ∃ y_ : List (S49), y_ = (([] : List (S49))) := ⟨_, rfl⟩
 replace H : ((spec_ProbeTubeOk.f k a1_0 l1_1).bind fun t327 => (if t327 = true then ((spec_l5Names.f k l0_0).bind fun t328 => (spec_ProbeAsk.l0 k y324 t328 0 l0_0 a1_0 l1_1)) else (some y324))) = some r := yh
 have Ny324 := ra hy_
 clear hy_
 obtain ⟨t327, A3, H⟩ := bo H
 by_cases c4 : t327 = true
 ·subst c4
  replace H := it H rfl
  obtain ⟨t328, A5, H⟩ := bo H
  have H' := Aside0.mk H
  clear H
  go_enter Try.func42, Try.ntmps42
  go_wp2_with (first | ((with_reducible refine gate_dst (N := 2) rfl ?_); refine be 2 #[.slice A0_0 l0_0.length c0_0] 65 ?_; intro gb322 hg w6 hbox hb; have _ := bs hb; have _ := ra (hbox); have _ := bz (w0 := w) hg; have _ := bz (w0 := w) hg; clear HB; rename_i HB BK322 GW322 GE322; clear hb hbox hg) | ((with_reducible refine gate_dst (N := 3) rfl ?_); refine be 3 #[.string a1_0, .slice A1_1 l1_1.length c1_1] 40 ?_; intro gb323 hg w7 hbox hb; have _ := bb (bk BK322) hb; have _ := bs hb; have _ := ra (hbox); have _ := bz (w0 := w) hg; have _ := bz (w0 := w) hg; have _ := bn hg (bk BK322); have _ := bm hg (bk BK322); clear BK322 HB; rename_i BK322 HB BK323 GW323 GE323 NB322_323 NB323_322; clear hb hbox hg) | ((with_reducible refine gate_dst (N := 10) rfl ?_); refine Kd.R_lit k49 _ 49 ?hg (N := 10) ?hd (xs := ([] : List (S49))) (inner := []) (ok := fun _ => True) (okp := fun _ => True) ?hr ?hp (fun _ hk => hk) trivial (Below.refl _ _) (Nat.le_refl _) (by simp) ?_; (case hd => rfl); (case hg => rfl); (case hr => first | (go_simp; done) | (go_simp; rfl)); (case hp => exact (Reps.none _ _)); intro v325 w8 ho9 hb hg_ hnew_; clear hg_ hnew_; (first | rw [← Ny324.out] at ho9 | (simp only [Int.reduceToNat] at ho9; rw [← Ny324.out] at ho9)); have _ := ra (Kd.R_lower ho9 (below_size bq)); have _ := bb (bk BK322) hb; have _ := bb (bk BK323) hb; have _ := bs hb; clear BK322 BK323 HB; rename_i HO326 BK322 BK323 HB; clear hb ho9; have hnb10 := NB323_322.out; have hnc10 := NB322_323.out; obtain ⟨hcz11_0, hcz11_1, hfz11_0, hfz11_1⟩ := zc2 BK323) | ((with_reducible refine gate_callee (f := 51) rfl ?_); refine gl (some 12) Try.func51 #[.agg #[.string a1_0, .slice A1_1 l1_1.length c1_1]] ?_; (with_reducible refine (spec_ProbeTubeOk.calls k a1_0 _ _ l1_1 true _ ?side1 ?side2 A3.out).mono ?_); (case side1 => exact sc HR1_1); (case side2 => exact HC1_1.out); rintro e w12 ⟨rfl, hb⟩; refine ⟨_, rfl, ?_⟩; have _ := ra (Kd.R_below (rq HO326) hb); have _ := bb (bk BK322) hb; have _ := bb (bk BK323) hb; have _ := bs hb; clear HO326 BK322 BK323 HB; rename_i HO326 BK322 BK323 HB; (try clear hb); (try clear hb2); (try clear hk); (try clear hi); obtain ⟨hcz13_0, hfz13_0⟩ := zc1 BK322) | ((with_reducible refine gate_callee (f := 73) rfl ?_); refine gl (some 16) Try.func73 #[.agg #[.slice A0_0 l0_0.length c0_0]] ?_; (with_reducible refine (spec_l5Names.calls k _ _ l0_0 t328 _ ?side1 ?side2 A5.out).mono ?_); (case side1 => exact sc HR0_0); (case side2 => exact HC0_0.out); rintro e w14 ⟨v329, rfl, ho0, hb⟩; refine ⟨_, rfl, ?_⟩; have _ := ra (Kd.R_below (rq HO326) hb); have _ := ra (Kd.R_lower ho0 (below_size bq)); have _ := bb (bk BK322) hb; have _ := bb (bk BK323) hb; have _ := bs hb; clear HO326 BK322 BK323 HB; rename_i HO326 HO330 BK322 BK323 HB; (try clear hb); (try clear hb2); (try clear hk); (try clear hi); (try clear ho0)))
  go_loopg [5, 7] k (fun kq v5 v7 w' => ∃ (x5_1 : List (S49)) (x7_1 : Int), v7 = .int .i64 x7_1 ∧ Aside0 (spec_ProbeAsk.l0 kq x5_1 t328 x7_1 l0_0 a1_0 l1_1 = some r) ∧ Aside0 (kq ≤ k) ∧ Aside0 (Kd.R k49 49 w' w.heap.size (fun _ => True) v5 x5_1) ∧ Aside0 (Kd.R Kd.string 9 w' w.heap.size (fun _ => True) v329 t328) ∧ Aside0 (w'.heap[gb322]? = some (.cells #[(.slice A0_0 l0_0.length c0_0)] 65 (0, 0))) ∧ Aside0 (w'.heap[gb323]? = some (.cells #[.string a1_0, (.slice A1_1 l1_1.length c1_1)] 40 (0, 0))) ∧ Aside0 (Below w.heap.size w w'))
  case atStart => exact ⟨(y324), (0), rs, H', ⟨Nat.le_refl _⟩, ⟨rq HO326⟩, ⟨rq HO330⟩, ⟨bk BK322⟩, ⟨bk BK323⟩, ⟨bq⟩⟩
  case round =>
   clear H'
   try clear c4
   try clear hcz11_0
   try clear hcz11_1
   try clear hcz13_0
   try clear hfz11_0
   try clear hfz11_1
   try clear hfz13_0
   obtain ⟨x5_1, x7_1, rfl, HA, HK1, HO_5, HO_6, BK322, BK323, HB⟩ := hrel
   cases gk with
   | zero => exact absurd HA.out (by simp [spec_ProbeAsk.l0])
   | succ k1 =>
    have H := HA.out
    clear HA
    simp only [spec_ProbeAsk.l0] at H
    by_cases c15 : x7_1 < (t328.length : Int)
    ·rw [if_pos c15] at H
     have c15b0 : decide (x7_1 < (t328.length : Int)) = true := decide_eq_true c15
     clear c15
     by_cases c16 : 0 ≤ x7_1
     ·rw [if_pos c16] at H
      have c16b0 : decide (0 ≤ x7_1) = true := decide_eq_true c16
      clear c16
      obtain ⟨⟨t332, t333, t334, t335, t336, t337⟩, A17, H⟩ := bo H
      try dsimp only at H
      by_cases c18 : t337 = true
      ·subst c18
       replace H := it H rfl
       by_cases c19 : (rdOf ByteArray.empty t328 x7_1).toList = a1_0.toList
       ·rw [if_pos c19] at H
        have c19b0 : ((rdOf ByteArray.empty t328 x7_1).toList == a1_0.toList) = true := beq_iff_eq.mpr c19
        have c19b1 : ((rdOf ByteArray.empty t328 x7_1).toList != a1_0.toList) = false := bne_eq_false_iff_eq.mpr c19
        clear c19
        have H' := Aside0.mk H
        clear H
        obtain ⟨Ao20, co20, eo20⟩ := Kd.R_slice HO_6.out
        subst eo20
        try go_wp2
        have _ := ra (Kd.R_drew HO_5.out)
        have _ := ra (Kd.R_drew HO_6.out)
        have _ := ra (blk_drew BK322.out)
        have _ := ra (blk_drew BK323.out)
        have _ := ra (below_drew1 HB.out)
        clear HO_5 HO_6 BK322 BK323 HB
        rename_i HO_5 HO_6 BK322 BK323 HB
        have p331 : 0 ≤ (x7_1 : Int) := od
        have q331 : x7_1 < (t328.length : Int) := od
        obtain ⟨ad331, e331, hx331_0⟩ := Kd.at_string (Kd.R_reads' HO_6.out).2.2 x7_1 p331 q331
        cases e331
        replace p331 := eq_true p331
        replace q331 := eq_true q331
        refine start_ (n := 13) (S := fun w' => w'.cell? ⟨gb322, 0, none⟩ = some (.slice A0_0 l0_0.length c0_0) ∧ w'.cell? ⟨gb323, 0, none⟩ = some (.string a1_0) ∧ w'.cell? ⟨gb323, 1, none⟩ = some (.slice A1_1 l1_1.length c1_1) ∧ w'.cell? (ad331.add (x7_1).toNat) = some (.string (rdOf ByteArray.empty t328 x7_1))) (ds := []) (bl 13 0) (by kernel_rfl) rfl rfl ⟨(blk_cell BK322.out 0).trans rfl, (blk_cell BK323.out 0).trans rfl, (blk_cell BK323.out 1).trans rfl, hx331_0⟩ (fun hHeld => ?_); refine with_tabW spec_ProbeAsk.tab8 spec_ProbeAsk.bits8 (fun HT_ HW_ => ?_)
        generalize wr.drew = w21 at HO_5 HO_6 BK322 BK323 HB hx331_0 hHeld ⊢
        refine pu 2 26 (bl 13 4) ?_
        refine pu 3 27 (bl 13 12) ?_
        refine pu 4 28 (bl 13 28) ?_
        refine tk 0 24 (bl 13 29) ?_ hHeld
        refine tk 1 25 (bl 13 31) ?_ hHeld
        refine tk 5 29 (bl 13 63) ?_ hHeld
        refine join_ (σ := Nat) 2 #[true, true, true, true, true, true, true, true, true, true, true, false, false] (fun s_ => [(30, .tuple #[.agg #[.string t332, .string t333, .int .i64 t334, .int .i64 t335, .int .i64 t336], .bool true]), (8, .pointer (some ⟨s_, 0, none⟩)), (23, .tuple #[.agg #[.string t332, .string t333, .int .i64 t334, .int .i64 t335, .int .i64 t336], .bool true]), (31, .agg #[.string t332, .string t333, .int .i64 t334, .int .i64 t335, .int .i64 t336]), (32, .bool true)]) (fun s_ w' => (w'.cell? ⟨gb322, 0, none⟩ = some (.slice A0_0 l0_0.length c0_0) ∧ w'.cell? ⟨gb323, 0, none⟩ = some (.string a1_0) ∧ w'.cell? ⟨gb323, 1, none⟩ = some (.slice A1_1 l1_1.length c1_1) ∧ w'.cell? (ad331.add (x7_1).toNat) = some (.string (rdOf ByteArray.empty t328 x7_1))) ∧ (Kd.R k49 49 w' w.heap.size (fun k_ => k_ ≠ s_) u5 x5_1) ∧ (Kd.R Kd.string 9 w' w.heap.size (fun _ => True) (.slice (some ad331) t328.length co20) t328) ∧ (w'.heap[gb322]? = some (.cells #[.slice A0_0 l0_0.length c0_0] 65 (0, 0))) ∧ (w'.heap[gb323]? = some (.cells #[.string a1_0, .slice A1_1 l1_1.length c1_1] 40 (0, 0))) ∧ (w'.heap[s_]? = some (.cells #[.string (⟨#[]⟩ : ByteArray), .string (⟨#[]⟩ : ByteArray), .int .i64 0, .int .i64 0, .int .i64 0] 49 (0, 0))) ∧ (w.heap.size ≤ s_) ∧ (w.heap.size ≤ s_) ∧ (gb322 ≠ s_) ∧ (s_ ≠ gb322) ∧ (gb323 ≠ s_) ∧ (s_ ≠ gb323) ∧ (Below w.heap.size w w')) ?_ ?_
        rotate_left
        ·intro hCont
         refine two_ (i := 6) (j := 10) (Ni := some 30) (Nj := some 8) #[true, true, true, true, true, true, true, false, false, false, false, false, false] #[true, true, true, true, true, true, false, false, false, false, true, false, false] rfl rfl rfl rfl (two_of HT_.out (by kernel_rfl)) (by decide) (by decide) (fun K hK => ?_) (fun K hK => ?_)
         ·skip
          refine gs Try.func74 #[.agg #[.slice A0_0 l0_0.length c0_0], .agg #[.string a1_0, .slice A1_1 l1_1.length c1_1], .string (rdOf ByteArray.empty t328 x7_1)] ?_
          with_reducible refine (spec_l5First.calls k1 _ _ l0_0 a1_0 _ _ l1_1 (rdOf ByteArray.empty t328 x7_1) t332 t333 t334 t335 t336 true _ ?side1 ?side2 ?side3 ?side4 A17.out).mono ?_
          (case side1 => exact sc HR0_0)
          (case side2 => exact HC0_0.out)
          (case side3 => exact sc HR1_1)
          (case side4 => exact HC1_1.out)
          rintro e w22 ⟨rfl, hb⟩
          have HS3_ := (hb.cell (World.block_lt_of_cell? _ _ (hHeld.2.2.2))).trans (hHeld.2.2.2)
          refine ⟨_, rfl, ?_⟩
          have _ := ra (Kd.R_below (rq HO_5) hb)
          have _ := ra (Kd.R_below (rq HO_6) hb)
          have _ := bb (bk BK322) hb
          have _ := bb (bk BK323) hb
          have _ := bs hb
          clear HO_5 HO_6 BK322 BK323 HB
          rename_i HO_5 HO_6 BK322 BK323 HB
          (try clear hb)
          (try clear hb2)
          (try clear hk)
          (try clear hi)
          refine hK.out _ _ ⟨(blk_cell BK322.out 0).trans rfl, (blk_cell BK323.out 0).trans rfl, (blk_cell BK323.out 1).trans rfl, HS3_⟩ (fun hHeld => ?_)
          clear hK K
          refine nm 30 ?_
          refine pu 7 23 (bl 13 255) ?_
          refine pu 8 31 (bl 13 511) ?_
          refine pu 9 32 (bl 13 1023) ?_
          refine oe 10 8 (bl 13 2047) (fun K hK => ?_)
          refine box_step ?hg (N := 8) ?hd (cs := #[.string (⟨#[]⟩ : ByteArray), .string (⟨#[]⟩ : ByteArray), .int .i64 0, .int .i64 0, .int .i64 0]) (t := 49) ?hr ?_; (case hd => rfl); (case hg => rfl); (case hr => first | (go_simp; done) | (go_simp; rfl))
          intro gb338 hg w23 hbox hb
          have HS3_ := (hb.cell (World.block_lt_of_cell? _ _ (hHeld.2.2.2))).trans (hHeld.2.2.2)
          have _ := ra (Kd.R_below (Kd.R_elderB (rq HO_5) gb338 (Nat.le_of_eq hg.symm)) hb)
          have _ := ra (Kd.R_below (rq HO_6) hb)
          have _ := bb (bk BK322) hb
          have _ := bb (bk BK323) hb
          have _ := bs hb
          have _ := ra (hbox)
          have _ := bz (w0 := w) hg
          have _ := bz (w0 := w) hg
          have _ := bn hg (bk BK322)
          have _ := bm hg (bk BK322)
          have _ := bn hg (bk BK323)
          have _ := bm hg (bk BK323)
          clear HO_5 HO_6 BK322 BK323 HB
          rename_i HO_5 HO_6 BK322 BK323 HB BK338 GW338 GE338 NB322_338 NB338_322 NB323_338 NB338_323
          clear hb hbox hg
          refine hK.out _ _ ⟨(blk_cell BK322.out 0).trans rfl, (blk_cell BK323.out 0).trans rfl, (blk_cell BK323.out 1).trans rfl, HS3_⟩ (fun hHeld => ?_)
          clear hK K
          refine nm 8 ?_
          exact norm_ (by simp only [putAll, Act.put, List.setIfInBounds_toArray, List.set_cons_zero, List.set_cons_succ]) (hCont (gb338) _ ⟨hHeld, (by (with_reducible repeat (first | apply Kd.R_alloc | apply Kd.R_drewN | apply Kd.R_drew)); exact Kd.R_mono HO_5.out (fun _ hk => hk.2)), (rq HO_6), (bk BK322), (bk BK323), (bk BK338), GW338.out, GE338.out, NB322_338.out, NB338_322.out, NB323_338.out, NB338_323.out, bq⟩)
         ·skip
          refine box_step ?hg (N := 8) ?hd (cs := #[.string (⟨#[]⟩ : ByteArray), .string (⟨#[]⟩ : ByteArray), .int .i64 0, .int .i64 0, .int .i64 0]) (t := 49) ?hr ?_; (case hd => rfl); (case hg => rfl); (case hr => first | (go_simp; done) | (go_simp; rfl))
          intro gb338 hg w22 hbox hb
          have HS3_ := (hb.cell (World.block_lt_of_cell? _ _ (hHeld.2.2.2))).trans (hHeld.2.2.2)
          have _ := ra (Kd.R_below (Kd.R_elderB (rq HO_5) gb338 (Nat.le_of_eq hg.symm)) hb)
          have _ := ra (Kd.R_below (rq HO_6) hb)
          have _ := bb (bk BK322) hb
          have _ := bb (bk BK323) hb
          have _ := bs hb
          have _ := ra (hbox)
          have _ := bz (w0 := w) hg
          have _ := bz (w0 := w) hg
          have _ := bn hg (bk BK322)
          have _ := bm hg (bk BK322)
          have _ := bn hg (bk BK323)
          have _ := bm hg (bk BK323)
          clear HO_5 HO_6 BK322 BK323 HB
          rename_i HO_5 HO_6 BK322 BK323 HB BK338 GW338 GE338 NB322_338 NB338_322 NB323_338 NB338_323
          clear hb hbox hg
          refine hK.out _ _ ⟨(blk_cell BK322.out 0).trans rfl, (blk_cell BK323.out 0).trans rfl, (blk_cell BK323.out 1).trans rfl, HS3_⟩ (fun hHeld => ?_)
          clear hK K
          refine nm 8 ?_
          refine oe 6 30 (bl 13 1151) (fun K hK => ?_)
          refine gs Try.func74 #[.agg #[.slice A0_0 l0_0.length c0_0], .agg #[.string a1_0, .slice A1_1 l1_1.length c1_1], .string (rdOf ByteArray.empty t328 x7_1)] ?_
          with_reducible refine (spec_l5First.calls k1 _ _ l0_0 a1_0 _ _ l1_1 (rdOf ByteArray.empty t328 x7_1) t332 t333 t334 t335 t336 true _ ?side1 ?side2 ?side3 ?side4 A17.out).mono ?_
          (case side1 => exact sc HR0_0)
          (case side2 => exact HC0_0.out)
          (case side3 => exact sc HR1_1)
          (case side4 => exact HC1_1.out)
          rintro e w23 ⟨rfl, hb⟩
          have HS3_ := (hb.cell (World.block_lt_of_cell? _ _ (hHeld.2.2.2))).trans (hHeld.2.2.2)
          refine ⟨_, rfl, ?_⟩
          have _ := ra (Kd.R_below (rq HO_5) hb)
          have _ := ra (Kd.R_below (rq HO_6) hb)
          have _ := bb (bk BK322) hb
          have _ := bb (bk BK323) hb
          have _ := bb (bk BK338) hb
          have _ := bs hb
          clear HO_5 HO_6 BK322 BK323 BK338 HB
          rename_i HO_5 HO_6 BK322 BK323 BK338 HB
          (try clear hb)
          (try clear hb2)
          (try clear hk)
          (try clear hi)
          refine hK.out _ _ ⟨(blk_cell BK322.out 0).trans rfl, (blk_cell BK323.out 0).trans rfl, (blk_cell BK323.out 1).trans rfl, HS3_⟩ (fun hHeld => ?_)
          clear hK K
          refine nm 30 ?_
          refine pu 7 23 (bl 13 1279) ?_
          refine pu 8 31 (bl 13 1535) ?_
          refine pu 9 32 (bl 13 2047) ?_
          exact norm_ (by simp only [putAll, Act.put, List.setIfInBounds_toArray, List.set_cons_zero, List.set_cons_succ]) (hCont (gb338) _ ⟨hHeld, (by (with_reducible repeat (first | apply Kd.R_alloc | apply Kd.R_drewN | apply Kd.R_drew)); exact Kd.R_mono HO_5.out (fun _ hk => hk.2)), (rq HO_6), (bk BK322), (bk BK323), (bk BK338), GW338.out, GE338.out, NB322_338.out, NB338_322.out, NB323_338.out, NB338_323.out, bq⟩)
        rintro gb338 w24 ⟨hS_, h0_, h1_, h2_, h3_, h4_, h5_, h6_, h7_, h8_, h9_, h10_, h11_⟩
        have _ : Aside0 (Kd.R k49 49 w24 w.heap.size (fun k_ => k_ ≠ gb338) u5 x5_1) := ⟨h0_⟩
        have _ : Aside0 (Kd.R Kd.string 9 w24 w.heap.size (fun _ => True) (.slice (some ad331) t328.length co20) t328) := ⟨h1_⟩
        have _ : Aside0 (w24.heap[gb322]? = some (.cells #[.slice A0_0 l0_0.length c0_0] 65 (0, 0))) := ⟨h2_⟩
        have _ : Aside0 (w24.heap[gb323]? = some (.cells #[.string a1_0, .slice A1_1 l1_1.length c1_1] 40 (0, 0))) := ⟨h3_⟩
        have _ : Aside0 (w24.heap[gb338]? = some (.cells #[.string (⟨#[]⟩ : ByteArray), .string (⟨#[]⟩ : ByteArray), .int .i64 0, .int .i64 0, .int .i64 0] 49 (0, 0))) := ⟨h4_⟩
        have _ : Aside0 (w.heap.size ≤ gb338) := ⟨h5_⟩
        have _ : Aside0 (w.heap.size ≤ gb338) := ⟨h6_⟩
        have _ : Aside0 (gb322 ≠ gb338) := ⟨h7_⟩
        have _ : Aside0 (gb338 ≠ gb322) := ⟨h8_⟩
        have _ : Aside0 (gb323 ≠ gb338) := ⟨h9_⟩
        have _ : Aside0 (gb338 ≠ gb323) := ⟨h10_⟩
        have _ : Aside0 (Below w.heap.size w w24) := ⟨h11_⟩
        clear HO_5 HO_6 BK322 BK323 HB
        clear h0_ h1_ h2_ h3_ h4_ h5_ h6_ h7_ h8_ h9_ h10_ h11_
        rename_i HO_5 HO_6 BK322 BK323 BK338 GW338 GE338 NB322_338 NB338_322 NB323_338 NB338_323 HB
        have hHeld : w24.cell? ⟨gb322, 0, none⟩ = some (.slice A0_0 l0_0.length c0_0) ∧ w24.cell? ⟨gb323, 0, none⟩ = some (.string a1_0) ∧ w24.cell? ⟨gb323, 1, none⟩ = some (.slice A1_1 l1_1.length c1_1) ∧ w24.cell? (ad331.add (x7_1).toNat) = some (.string (rdOf ByteArray.empty t328 x7_1)) := hS_
        refine norm_ (a' := ?_) ?_ ?_
        rotate_left
        ·simp only [putAll, Act.put, List.setIfInBounds_toArray, List.set_cons_zero, List.set_cons_succ]
         rfl
        refine one_ (i := 11) (N := none) #[true, true, true, true, true, true, true, true, true, true, true, true, false] rfl rfl (one_of HT_.out (by kernel_rfl)) (by decide) (fun K hK => ?_)
        have hs25 : w24.cell? ⟨gb338, 0, none⟩ = some (.string (⟨#[]⟩ : ByteArray)) := (blk_cell BK338.out 0).trans rfl
        have hfs25 := blk_frozen BK338.out 0
        have hns25_0 := NB322_338.out
        have hns25_1 := NB323_338.out
        have hms25_0 := NB338_322.out
        have hms25_1 := NB338_323.out
        have hs26 : w24.cell? ⟨gb338, 1, none⟩ = some (.string (⟨#[]⟩ : ByteArray)) := (blk_cell BK338.out 1).trans rfl
        have hfs26 := blk_frozen BK338.out 1
        have hns26_0 := NB322_338.out
        have hns26_1 := NB323_338.out
        have hms26_0 := NB338_322.out
        have hms26_1 := NB338_323.out
        have hs27 : w24.cell? ⟨gb338, 2, none⟩ = some (.int .i64 0) := (blk_cell BK338.out 2).trans rfl
        have hfs27 := blk_frozen BK338.out 2
        have hns27_0 := NB322_338.out
        have hns27_1 := NB323_338.out
        have hms27_0 := NB338_322.out
        have hms27_1 := NB338_323.out
        have hs28 : w24.cell? ⟨gb338, 3, none⟩ = some (.int .i64 0) := (blk_cell BK338.out 3).trans rfl
        have hfs28 := blk_frozen BK338.out 3
        have hns28_0 := NB322_338.out
        have hns28_1 := NB323_338.out
        have hms28_0 := NB338_322.out
        have hms28_1 := NB338_323.out
        have hs29 : w24.cell? ⟨gb338, 4, none⟩ = some (.int .i64 0) := (blk_cell BK338.out 4).trans rfl
        have hfs29 := blk_frozen BK338.out 4
        have hns29_0 := NB322_338.out
        have hns29_1 := NB323_338.out
        have hms29_0 := NB338_322.out
        have hms29_1 := NB338_323.out
        refine skip_ (w1 := ?_) (by rfl) rfl ?_ ?_
        rotate_left
        ·go_simp
         rfl
        refine hK.out _ _ ⟨((cell_far (p := ⟨gb338, _, none⟩) NB322_338.out _).trans (((cell_far (p := ⟨gb338, _, none⟩) NB322_338.out _).trans (((cell_far (p := ⟨gb338, _, none⟩) NB322_338.out _).trans (((cell_far (p := ⟨gb338, _, none⟩) NB322_338.out _).trans (((cell_far (p := ⟨gb338, _, none⟩) NB322_338.out _).trans (hHeld.1)))))))))), ((cell_far (p := ⟨gb338, _, none⟩) NB323_338.out _).trans (((cell_far (p := ⟨gb338, _, none⟩) NB323_338.out _).trans (((cell_far (p := ⟨gb338, _, none⟩) NB323_338.out _).trans (((cell_far (p := ⟨gb338, _, none⟩) NB323_338.out _).trans (((cell_far (p := ⟨gb338, _, none⟩) NB323_338.out _).trans (hHeld.2.1)))))))))), ((cell_far (p := ⟨gb338, _, none⟩) NB323_338.out _).trans (((cell_far (p := ⟨gb338, _, none⟩) NB323_338.out _).trans (((cell_far (p := ⟨gb338, _, none⟩) NB323_338.out _).trans (((cell_far (p := ⟨gb338, _, none⟩) NB323_338.out _).trans (((cell_far (p := ⟨gb338, _, none⟩) NB323_338.out _).trans (hHeld.2.2.1)))))))))), ((cell_far (p := ⟨gb338, _, none⟩) (by first | exact Kd.own_blk (Kd.R_ne HO_6.out BK338.out (by decide)) | (rw [add_block]; exact Kd.own_blk (Kd.R_ne HO_6.out BK338.out (by decide))) | (show (Addr.add _ _).block ≠ _; rw [add_block]; exact Kd.own_blk (Kd.R_ne HO_6.out BK338.out (by decide))) | (dsimp only; exact Kd.own_blk (Kd.R_ne HO_6.out BK338.out (by decide)))) _).trans (((cell_far (p := ⟨gb338, _, none⟩) (by first | exact Kd.own_blk (Kd.R_ne HO_6.out BK338.out (by decide)) | (rw [add_block]; exact Kd.own_blk (Kd.R_ne HO_6.out BK338.out (by decide))) | (show (Addr.add _ _).block ≠ _; rw [add_block]; exact Kd.own_blk (Kd.R_ne HO_6.out BK338.out (by decide))) | (dsimp only; exact Kd.own_blk (Kd.R_ne HO_6.out BK338.out (by decide)))) _).trans (((cell_far (p := ⟨gb338, _, none⟩) (by first | exact Kd.own_blk (Kd.R_ne HO_6.out BK338.out (by decide)) | (rw [add_block]; exact Kd.own_blk (Kd.R_ne HO_6.out BK338.out (by decide))) | (show (Addr.add _ _).block ≠ _; rw [add_block]; exact Kd.own_blk (Kd.R_ne HO_6.out BK338.out (by decide))) | (dsimp only; exact Kd.own_blk (Kd.R_ne HO_6.out BK338.out (by decide)))) _).trans (((cell_far (p := ⟨gb338, _, none⟩) (by first | exact Kd.own_blk (Kd.R_ne HO_6.out BK338.out (by decide)) | (rw [add_block]; exact Kd.own_blk (Kd.R_ne HO_6.out BK338.out (by decide))) | (show (Addr.add _ _).block ≠ _; rw [add_block]; exact Kd.own_blk (Kd.R_ne HO_6.out BK338.out (by decide))) | (dsimp only; exact Kd.own_blk (Kd.R_ne HO_6.out BK338.out (by decide)))) _).trans (((cell_far (p := ⟨gb338, _, none⟩) (by first | exact Kd.own_blk (Kd.R_ne HO_6.out BK338.out (by decide)) | (rw [add_block]; exact Kd.own_blk (Kd.R_ne HO_6.out BK338.out (by decide))) | (show (Addr.add _ _).block ≠ _; rw [add_block]; exact Kd.own_blk (Kd.R_ne HO_6.out BK338.out (by decide))) | (dsimp only; exact Kd.own_blk (Kd.R_ne HO_6.out BK338.out (by decide)))) _).trans (hHeld.2.2.2))))))))))⟩ (fun hHeld => ?_)
        clear hK K
        refine pu 12 9 (bl 13 8191) ?_
        refine done_ (done_of HT_.out (by kernel_rfl)) ?_
        try go_wp2
        have n0 : Aside0 (Kd.R k49 49 (((((w24.setCell ⟨gb338, 0, none⟩ (.string t332)).setCell ⟨gb338, 1, none⟩ (.string t333)).setCell ⟨gb338, 2, none⟩ (.int .i64 t334)).setCell ⟨gb338, 3, none⟩ (.int .i64 t335)).setCell ⟨gb338, 4, none⟩ (.int .i64 t336)) w.heap.size (fun k_ => k_ ≠ gb338) u5 x5_1) := ⟨by (with_reducible repeat (first | apply Kd.R_alloc | apply Kd.R_drewN | apply Kd.R_drew)); exact Kd.R_mono (rf (Kd.R_mono HO_5.out (fun k_ hk => (⟨hk, hk⟩ : _ ∧ k_ ≠ gb338)))) (fun _ hk => hk.1)⟩
        have n1 : Aside0 (Kd.R Kd.string 9 (((((w24.setCell ⟨gb338, 0, none⟩ (.string t332)).setCell ⟨gb338, 1, none⟩ (.string t333)).setCell ⟨gb338, 2, none⟩ (.int .i64 t334)).setCell ⟨gb338, 3, none⟩ (.int .i64 t335)).setCell ⟨gb338, 4, none⟩ (.int .i64 t336)) w.heap.size (fun _ => True) (.slice (some ad331) t328.length co20) t328) := ⟨by (with_reducible repeat (first | apply Kd.R_alloc | apply Kd.R_drewN | apply Kd.R_drew)); exact Kd.R_mono (rf (Kd.R_types HO_6.out BK338.out (by decide))) (fun _ hk => trivial)⟩
        have n2 : Aside0 ((((((w24.setCell ⟨gb338, 0, none⟩ (.string t332)).setCell ⟨gb338, 1, none⟩ (.string t333)).setCell ⟨gb338, 2, none⟩ (.int .i64 t334)).setCell ⟨gb338, 3, none⟩ (.int .i64 t335)).setCell ⟨gb338, 4, none⟩ (.int .i64 t336)).heap[gb322]? = some (.cells #[.slice A0_0 l0_0.length c0_0] 65 (0, 0))) := ⟨bk BK322⟩
        have n3 : Aside0 ((((((w24.setCell ⟨gb338, 0, none⟩ (.string t332)).setCell ⟨gb338, 1, none⟩ (.string t333)).setCell ⟨gb338, 2, none⟩ (.int .i64 t334)).setCell ⟨gb338, 3, none⟩ (.int .i64 t335)).setCell ⟨gb338, 4, none⟩ (.int .i64 t336)).heap[gb323]? = some (.cells #[.string a1_0, .slice A1_1 l1_1.length c1_1] 40 (0, 0))) := ⟨bk BK323⟩
        have n4 : Aside0 ((((((w24.setCell ⟨gb338, 0, none⟩ (.string t332)).setCell ⟨gb338, 1, none⟩ (.string t333)).setCell ⟨gb338, 2, none⟩ (.int .i64 t334)).setCell ⟨gb338, 3, none⟩ (.int .i64 t335)).setCell ⟨gb338, 4, none⟩ (.int .i64 t336)).heap[gb338]? = some (.cells #[.string t332, .string t333, .int .i64 t334, .int .i64 t335, .int .i64 t336] 49 (0, 0))) := ⟨bp BK338⟩
        have n5 : Aside0 (Below w.heap.size w (((((w24.setCell ⟨gb338, 0, none⟩ (.string t332)).setCell ⟨gb338, 1, none⟩ (.string t333)).setCell ⟨gb338, 2, none⟩ (.int .i64 t334)).setCell ⟨gb338, 3, none⟩ (.int .i64 t335)).setCell ⟨gb338, 4, none⟩ (.int .i64 t336))) := ⟨bq⟩
        (try clear HO_5)
        (try clear HO_6)
        (try clear BK322)
        (try clear BK323)
        (try clear BK338)
        (try clear HB)
        generalize (((((w24.setCell ⟨gb338, 0, none⟩ (.string t332)).setCell ⟨gb338, 1, none⟩ (.string t333)).setCell ⟨gb338, 2, none⟩ (.int .i64 t334)).setCell ⟨gb338, 3, none⟩ (.int .i64 t335)).setCell ⟨gb338, 4, none⟩ (.int .i64 t336)) = w30 at n0 n1 n2 n3 n4 n5 ⊢
        have HO_5 := n0
        have HO_6 := n1
        have BK322 := n2
        have BK323 := n3
        have BK338 := n4
        have HB := n5
        clear n0 n1 n2 n3 n4 n5
        have _ := ra (Kd.R_drew HO_5.out)
        have _ := ra (Kd.R_drew HO_6.out)
        have _ := ra (blk_drew BK322.out)
        have _ := ra (blk_drew BK323.out)
        have _ := ra (blk_drew BK338.out)
        have _ := ra (below_drew1 HB.out)
        clear HO_5 HO_6 BK322 BK323 BK338 HB
        rename_i HO_5 HO_6 BK322 BK323 BK338 HB
        have p339 : 0 ≤ (x7_1 : Int) := od
        have q339 : x7_1 < (t328.length : Int) := od
        obtain ⟨ad339, e339, hx339_0⟩ := Kd.at_string (Kd.R_reads' HO_6.out).2.2 x7_1 p339 q339
        obtain rfl : ad331 = ad339 := (by injection e339)
        replace p339 := eq_true p339
        replace q339 := eq_true q339
        refine start_ (n := 10) (S := fun w' => w'.cell? ⟨gb323, 0, none⟩ = some (.string a1_0) ∧ w'.cell? ⟨gb323, 1, none⟩ = some (.slice A1_1 l1_1.length c1_1) ∧ w'.cell? (ad331.add (x7_1).toNat) = some (.string (rdOf ByteArray.empty t328 x7_1))) (ds := []) (bl 10 0) (by kernel_rfl) rfl rfl ⟨(blk_cell BK323.out 0).trans rfl, (blk_cell BK323.out 1).trans rfl, hx339_0⟩ (fun hHeld => ?_); refine with_tabW spec_ProbeAsk.tab9 spec_ProbeAsk.bits9 (fun HT_ HW_ => ?_)
        generalize w30.drew = w31 at HO_5 HO_6 BK322 BK323 BK338 HB hx339_0 hHeld ⊢
        refine pu 0 33 (bl 10 1) ?_
        refine pu 1 34 (bl 10 3) ?_
        refine pu 2 35 (bl 10 7) ?_
        refine pu 3 36 (bl 10 15) ?_
        refine pu 4 37 (bl 10 31) ?_
        refine pu 6 39 (bl 10 95) ?_
        refine tk 5 38 (bl 10 127) ?_ hHeld
        refine tk 7 40 (bl 10 255) ?_ hHeld
        refine pu 8 41 (bl 10 511) ?_
        refine pu 9 42 (bl 10 1023) ?_
        refine done_ (done_of HT_.out (by kernel_rfl)) ?_
        try go_wp2
        go_roundg k1
        case measure => have := HK1.out; omega
        case rel => exact ⟨(x5_1), (wrap64 (x7_1 + 1)), rs, H', ⟨by have := HK1.out; omega⟩, ⟨by (with_reducible repeat (first | apply Kd.R_alloc | apply Kd.R_drewN | apply Kd.R_drew)); exact Kd.R_mono HO_5.out (fun _ hk => trivial)⟩, ⟨rq HO_6⟩, ⟨bk BK322⟩, ⟨bk BK323⟩, ⟨bq⟩⟩
       ·rw [if_neg c19] at H
        have c19b0 : ((rdOf ByteArray.empty t328 x7_1).toList == a1_0.toList) = false := beq_eq_false_iff_ne.mpr c19
        have c19b1 : ((rdOf ByteArray.empty t328 x7_1).toList != a1_0.toList) = true := bne_iff_ne.mpr c19
        by_cases c32 : x5_1.length < 2513169434916
        ·rw [if_pos c32] at H
         have LMc32 := Aside0.mk c32
         clear c32
         obtain ⟨y340, hy_⟩ : ∃ y_ : List (S49), y_ = (x5_1 ++ [(⟨t332, t333, t334, t335, t336⟩ : S49)]) := ⟨_, rfl⟩
         replace H : (spec_ProbeAsk.l0 k1 y340 t328 (wrap64 (x7_1 + 1)) l0_0 a1_0 l1_1) = some r := yh
         have Ny340 := ra hy_
         clear hy_
         have H' := Aside0.mk H
         clear H
         obtain ⟨Ao33, co33, eo33⟩ := Kd.R_slice HO_6.out
         subst eo33
         try go_wp2
         have _ := ra (Kd.R_drew HO_5.out)
         have _ := ra (Kd.R_drew HO_6.out)
         have _ := ra (blk_drew BK322.out)
         have _ := ra (blk_drew BK323.out)
         have _ := ra (below_drew1 HB.out)
         clear HO_5 HO_6 BK322 BK323 HB
         rename_i HO_5 HO_6 BK322 BK323 HB
         have p331 : 0 ≤ (x7_1 : Int) := od
         have q331 : x7_1 < (t328.length : Int) := od
         obtain ⟨ad331, e331, hx331_0⟩ := Kd.at_string (Kd.R_reads' HO_6.out).2.2 x7_1 p331 q331
         cases e331
         replace p331 := eq_true p331
         replace q331 := eq_true q331
         refine start_ (n := 13) (S := fun w' => w'.cell? ⟨gb322, 0, none⟩ = some (.slice A0_0 l0_0.length c0_0) ∧ w'.cell? ⟨gb323, 0, none⟩ = some (.string a1_0) ∧ w'.cell? ⟨gb323, 1, none⟩ = some (.slice A1_1 l1_1.length c1_1) ∧ w'.cell? (ad331.add (x7_1).toNat) = some (.string (rdOf ByteArray.empty t328 x7_1))) (ds := []) (bl 13 0) (by kernel_rfl) rfl rfl ⟨(blk_cell BK322.out 0).trans rfl, (blk_cell BK323.out 0).trans rfl, (blk_cell BK323.out 1).trans rfl, hx331_0⟩ (fun hHeld => ?_); refine with_tabW spec_ProbeAsk.tab8 spec_ProbeAsk.bits8 (fun HT_ HW_ => ?_)
         generalize wr.drew = w34 at HO_5 HO_6 BK322 BK323 HB hx331_0 hHeld ⊢
         refine pu 2 26 (bl 13 4) ?_
         refine pu 3 27 (bl 13 12) ?_
         refine pu 4 28 (bl 13 28) ?_
         refine tk 0 24 (bl 13 29) ?_ hHeld
         refine tk 1 25 (bl 13 31) ?_ hHeld
         refine tk 5 29 (bl 13 63) ?_ hHeld
         refine join_ (σ := Nat) 2 #[true, true, true, true, true, true, true, true, true, true, true, false, false] (fun s_ => [(30, .tuple #[.agg #[.string t332, .string t333, .int .i64 t334, .int .i64 t335, .int .i64 t336], .bool true]), (8, .pointer (some ⟨s_, 0, none⟩)), (23, .tuple #[.agg #[.string t332, .string t333, .int .i64 t334, .int .i64 t335, .int .i64 t336], .bool true]), (31, .agg #[.string t332, .string t333, .int .i64 t334, .int .i64 t335, .int .i64 t336]), (32, .bool true)]) (fun s_ w' => (w'.cell? ⟨gb322, 0, none⟩ = some (.slice A0_0 l0_0.length c0_0) ∧ w'.cell? ⟨gb323, 0, none⟩ = some (.string a1_0) ∧ w'.cell? ⟨gb323, 1, none⟩ = some (.slice A1_1 l1_1.length c1_1) ∧ w'.cell? (ad331.add (x7_1).toNat) = some (.string (rdOf ByteArray.empty t328 x7_1))) ∧ (Kd.R k49 49 w' w.heap.size (fun k_ => k_ ≠ s_) u5 x5_1) ∧ (Kd.R Kd.string 9 w' w.heap.size (fun _ => True) (.slice (some ad331) t328.length co33) t328) ∧ (w'.heap[gb322]? = some (.cells #[.slice A0_0 l0_0.length c0_0] 65 (0, 0))) ∧ (w'.heap[gb323]? = some (.cells #[.string a1_0, .slice A1_1 l1_1.length c1_1] 40 (0, 0))) ∧ (w'.heap[s_]? = some (.cells #[.string (⟨#[]⟩ : ByteArray), .string (⟨#[]⟩ : ByteArray), .int .i64 0, .int .i64 0, .int .i64 0] 49 (0, 0))) ∧ (w.heap.size ≤ s_) ∧ (w.heap.size ≤ s_) ∧ (gb322 ≠ s_) ∧ (s_ ≠ gb322) ∧ (gb323 ≠ s_) ∧ (s_ ≠ gb323) ∧ (Below w.heap.size w w')) ?_ ?_
         rotate_left
         ·intro hCont
          refine two_ (i := 6) (j := 10) (Ni := some 30) (Nj := some 8) #[true, true, true, true, true, true, true, false, false, false, false, false, false] #[true, true, true, true, true, true, false, false, false, false, true, false, false] rfl rfl rfl rfl (two_of HT_.out (by kernel_rfl)) (by decide) (by decide) (fun K hK => ?_) (fun K hK => ?_)
          ·skip
           refine gs Try.func74 #[.agg #[.slice A0_0 l0_0.length c0_0], .agg #[.string a1_0, .slice A1_1 l1_1.length c1_1], .string (rdOf ByteArray.empty t328 x7_1)] ?_
           with_reducible refine (spec_l5First.calls k1 _ _ l0_0 a1_0 _ _ l1_1 (rdOf ByteArray.empty t328 x7_1) t332 t333 t334 t335 t336 true _ ?side1 ?side2 ?side3 ?side4 A17.out).mono ?_
           (case side1 => exact sc HR0_0)
           (case side2 => exact HC0_0.out)
           (case side3 => exact sc HR1_1)
           (case side4 => exact HC1_1.out)
           rintro e w35 ⟨rfl, hb⟩
           have HS3_ := (hb.cell (World.block_lt_of_cell? _ _ (hHeld.2.2.2))).trans (hHeld.2.2.2)
           refine ⟨_, rfl, ?_⟩
           have _ := ra (Kd.R_below (rq HO_5) hb)
           have _ := ra (Kd.R_below (rq HO_6) hb)
           have _ := bb (bk BK322) hb
           have _ := bb (bk BK323) hb
           have _ := bs hb
           clear HO_5 HO_6 BK322 BK323 HB
           rename_i HO_5 HO_6 BK322 BK323 HB
           (try clear hb)
           (try clear hb2)
           (try clear hk)
           (try clear hi)
           refine hK.out _ _ ⟨(blk_cell BK322.out 0).trans rfl, (blk_cell BK323.out 0).trans rfl, (blk_cell BK323.out 1).trans rfl, HS3_⟩ (fun hHeld => ?_)
           clear hK K
           refine nm 30 ?_
           refine pu 7 23 (bl 13 255) ?_
           refine pu 8 31 (bl 13 511) ?_
           refine pu 9 32 (bl 13 1023) ?_
           refine oe 10 8 (bl 13 2047) (fun K hK => ?_)
           refine box_step ?hg (N := 8) ?hd (cs := #[.string (⟨#[]⟩ : ByteArray), .string (⟨#[]⟩ : ByteArray), .int .i64 0, .int .i64 0, .int .i64 0]) (t := 49) ?hr ?_; (case hd => rfl); (case hg => rfl); (case hr => first | (go_simp; done) | (go_simp; rfl))
           intro gb338 hg w36 hbox hb
           have HS3_ := (hb.cell (World.block_lt_of_cell? _ _ (hHeld.2.2.2))).trans (hHeld.2.2.2)
           have _ := ra (Kd.R_below (Kd.R_elderB (rq HO_5) gb338 (Nat.le_of_eq hg.symm)) hb)
           have _ := ra (Kd.R_below (rq HO_6) hb)
           have _ := bb (bk BK322) hb
           have _ := bb (bk BK323) hb
           have _ := bs hb
           have _ := ra (hbox)
           have _ := bz (w0 := w) hg
           have _ := bz (w0 := w) hg
           have _ := bn hg (bk BK322)
           have _ := bm hg (bk BK322)
           have _ := bn hg (bk BK323)
           have _ := bm hg (bk BK323)
           clear HO_5 HO_6 BK322 BK323 HB
           rename_i HO_5 HO_6 BK322 BK323 HB BK338 GW338 GE338 NB322_338 NB338_322 NB323_338 NB338_323
           clear hb hbox hg
           refine hK.out _ _ ⟨(blk_cell BK322.out 0).trans rfl, (blk_cell BK323.out 0).trans rfl, (blk_cell BK323.out 1).trans rfl, HS3_⟩ (fun hHeld => ?_)
           clear hK K
           refine nm 8 ?_
           exact norm_ (by simp only [putAll, Act.put, List.setIfInBounds_toArray, List.set_cons_zero, List.set_cons_succ]) (hCont (gb338) _ ⟨hHeld, (by (with_reducible repeat (first | apply Kd.R_alloc | apply Kd.R_drewN | apply Kd.R_drew)); exact Kd.R_mono HO_5.out (fun _ hk => hk.2)), (rq HO_6), (bk BK322), (bk BK323), (bk BK338), GW338.out, GE338.out, NB322_338.out, NB338_322.out, NB323_338.out, NB338_323.out, bq⟩)
          ·skip
           refine box_step ?hg (N := 8) ?hd (cs := #[.string (⟨#[]⟩ : ByteArray), .string (⟨#[]⟩ : ByteArray), .int .i64 0, .int .i64 0, .int .i64 0]) (t := 49) ?hr ?_; (case hd => rfl); (case hg => rfl); (case hr => first | (go_simp; done) | (go_simp; rfl))
           intro gb338 hg w35 hbox hb
           have HS3_ := (hb.cell (World.block_lt_of_cell? _ _ (hHeld.2.2.2))).trans (hHeld.2.2.2)
           have _ := ra (Kd.R_below (Kd.R_elderB (rq HO_5) gb338 (Nat.le_of_eq hg.symm)) hb)
           have _ := ra (Kd.R_below (rq HO_6) hb)
           have _ := bb (bk BK322) hb
           have _ := bb (bk BK323) hb
           have _ := bs hb
           have _ := ra (hbox)
           have _ := bz (w0 := w) hg
           have _ := bz (w0 := w) hg
           have _ := bn hg (bk BK322)
           have _ := bm hg (bk BK322)
           have _ := bn hg (bk BK323)
           have _ := bm hg (bk BK323)
           clear HO_5 HO_6 BK322 BK323 HB
           rename_i HO_5 HO_6 BK322 BK323 HB BK338 GW338 GE338 NB322_338 NB338_322 NB323_338 NB338_323
           clear hb hbox hg
           refine hK.out _ _ ⟨(blk_cell BK322.out 0).trans rfl, (blk_cell BK323.out 0).trans rfl, (blk_cell BK323.out 1).trans rfl, HS3_⟩ (fun hHeld => ?_)
           clear hK K
           refine nm 8 ?_
           refine oe 6 30 (bl 13 1151) (fun K hK => ?_)
           refine gs Try.func74 #[.agg #[.slice A0_0 l0_0.length c0_0], .agg #[.string a1_0, .slice A1_1 l1_1.length c1_1], .string (rdOf ByteArray.empty t328 x7_1)] ?_
           with_reducible refine (spec_l5First.calls k1 _ _ l0_0 a1_0 _ _ l1_1 (rdOf ByteArray.empty t328 x7_1) t332 t333 t334 t335 t336 true _ ?side1 ?side2 ?side3 ?side4 A17.out).mono ?_
           (case side1 => exact sc HR0_0)
           (case side2 => exact HC0_0.out)
           (case side3 => exact sc HR1_1)
           (case side4 => exact HC1_1.out)
           rintro e w36 ⟨rfl, hb⟩
           have HS3_ := (hb.cell (World.block_lt_of_cell? _ _ (hHeld.2.2.2))).trans (hHeld.2.2.2)
           refine ⟨_, rfl, ?_⟩
           have _ := ra (Kd.R_below (rq HO_5) hb)
           have _ := ra (Kd.R_below (rq HO_6) hb)
           have _ := bb (bk BK322) hb
           have _ := bb (bk BK323) hb
           have _ := bb (bk BK338) hb
           have _ := bs hb
           clear HO_5 HO_6 BK322 BK323 BK338 HB
           rename_i HO_5 HO_6 BK322 BK323 BK338 HB
           (try clear hb)
           (try clear hb2)
           (try clear hk)
           (try clear hi)
           refine hK.out _ _ ⟨(blk_cell BK322.out 0).trans rfl, (blk_cell BK323.out 0).trans rfl, (blk_cell BK323.out 1).trans rfl, HS3_⟩ (fun hHeld => ?_)
           clear hK K
           refine nm 30 ?_
           refine pu 7 23 (bl 13 1279) ?_
           refine pu 8 31 (bl 13 1535) ?_
           refine pu 9 32 (bl 13 2047) ?_
           exact norm_ (by simp only [putAll, Act.put, List.setIfInBounds_toArray, List.set_cons_zero, List.set_cons_succ]) (hCont (gb338) _ ⟨hHeld, (by (with_reducible repeat (first | apply Kd.R_alloc | apply Kd.R_drewN | apply Kd.R_drew)); exact Kd.R_mono HO_5.out (fun _ hk => hk.2)), (rq HO_6), (bk BK322), (bk BK323), (bk BK338), GW338.out, GE338.out, NB322_338.out, NB338_322.out, NB323_338.out, NB338_323.out, bq⟩)
         rintro gb338 w37 ⟨hS_, h0_, h1_, h2_, h3_, h4_, h5_, h6_, h7_, h8_, h9_, h10_, h11_⟩
         have _ : Aside0 (Kd.R k49 49 w37 w.heap.size (fun k_ => k_ ≠ gb338) u5 x5_1) := ⟨h0_⟩
         have _ : Aside0 (Kd.R Kd.string 9 w37 w.heap.size (fun _ => True) (.slice (some ad331) t328.length co33) t328) := ⟨h1_⟩
         have _ : Aside0 (w37.heap[gb322]? = some (.cells #[.slice A0_0 l0_0.length c0_0] 65 (0, 0))) := ⟨h2_⟩
         have _ : Aside0 (w37.heap[gb323]? = some (.cells #[.string a1_0, .slice A1_1 l1_1.length c1_1] 40 (0, 0))) := ⟨h3_⟩
         have _ : Aside0 (w37.heap[gb338]? = some (.cells #[.string (⟨#[]⟩ : ByteArray), .string (⟨#[]⟩ : ByteArray), .int .i64 0, .int .i64 0, .int .i64 0] 49 (0, 0))) := ⟨h4_⟩
         have _ : Aside0 (w.heap.size ≤ gb338) := ⟨h5_⟩
         have _ : Aside0 (w.heap.size ≤ gb338) := ⟨h6_⟩
         have _ : Aside0 (gb322 ≠ gb338) := ⟨h7_⟩
         have _ : Aside0 (gb338 ≠ gb322) := ⟨h8_⟩
         have _ : Aside0 (gb323 ≠ gb338) := ⟨h9_⟩
         have _ : Aside0 (gb338 ≠ gb323) := ⟨h10_⟩
         have _ : Aside0 (Below w.heap.size w w37) := ⟨h11_⟩
         clear HO_5 HO_6 BK322 BK323 HB
         clear h0_ h1_ h2_ h3_ h4_ h5_ h6_ h7_ h8_ h9_ h10_ h11_
         rename_i HO_5 HO_6 BK322 BK323 BK338 GW338 GE338 NB322_338 NB338_322 NB323_338 NB338_323 HB
         have hHeld : w37.cell? ⟨gb322, 0, none⟩ = some (.slice A0_0 l0_0.length c0_0) ∧ w37.cell? ⟨gb323, 0, none⟩ = some (.string a1_0) ∧ w37.cell? ⟨gb323, 1, none⟩ = some (.slice A1_1 l1_1.length c1_1) ∧ w37.cell? (ad331.add (x7_1).toNat) = some (.string (rdOf ByteArray.empty t328 x7_1)) := hS_
         refine norm_ (a' := ?_) ?_ ?_
         rotate_left
         ·simp only [putAll, Act.put, List.setIfInBounds_toArray, List.set_cons_zero, List.set_cons_succ]
          rfl
         refine one_ (i := 11) (N := none) #[true, true, true, true, true, true, true, true, true, true, true, true, false] rfl rfl (one_of HT_.out (by kernel_rfl)) (by decide) (fun K hK => ?_)
         have hs38 : w37.cell? ⟨gb338, 0, none⟩ = some (.string (⟨#[]⟩ : ByteArray)) := (blk_cell BK338.out 0).trans rfl
         have hfs38 := blk_frozen BK338.out 0
         have hns38_0 := NB322_338.out
         have hns38_1 := NB323_338.out
         have hms38_0 := NB338_322.out
         have hms38_1 := NB338_323.out
         have hs39 : w37.cell? ⟨gb338, 1, none⟩ = some (.string (⟨#[]⟩ : ByteArray)) := (blk_cell BK338.out 1).trans rfl
         have hfs39 := blk_frozen BK338.out 1
         have hns39_0 := NB322_338.out
         have hns39_1 := NB323_338.out
         have hms39_0 := NB338_322.out
         have hms39_1 := NB338_323.out
         have hs40 : w37.cell? ⟨gb338, 2, none⟩ = some (.int .i64 0) := (blk_cell BK338.out 2).trans rfl
         have hfs40 := blk_frozen BK338.out 2
         have hns40_0 := NB322_338.out
         have hns40_1 := NB323_338.out
         have hms40_0 := NB338_322.out
         have hms40_1 := NB338_323.out
         have hs41 : w37.cell? ⟨gb338, 3, none⟩ = some (.int .i64 0) := (blk_cell BK338.out 3).trans rfl
         have hfs41 := blk_frozen BK338.out 3
         have hns41_0 := NB322_338.out
         have hns41_1 := NB323_338.out
         have hms41_0 := NB338_322.out
         have hms41_1 := NB338_323.out
         have hs42 : w37.cell? ⟨gb338, 4, none⟩ = some (.int .i64 0) := (blk_cell BK338.out 4).trans rfl
         have hfs42 := blk_frozen BK338.out 4
         have hns42_0 := NB322_338.out
         have hns42_1 := NB323_338.out
         have hms42_0 := NB338_322.out
         have hms42_1 := NB338_323.out
         refine skip_ (w1 := ?_) (by rfl) rfl ?_ ?_
         rotate_left
         ·go_simp
          rfl
         refine hK.out _ _ ⟨((cell_far (p := ⟨gb338, _, none⟩) NB322_338.out _).trans (((cell_far (p := ⟨gb338, _, none⟩) NB322_338.out _).trans (((cell_far (p := ⟨gb338, _, none⟩) NB322_338.out _).trans (((cell_far (p := ⟨gb338, _, none⟩) NB322_338.out _).trans (((cell_far (p := ⟨gb338, _, none⟩) NB322_338.out _).trans (hHeld.1)))))))))), ((cell_far (p := ⟨gb338, _, none⟩) NB323_338.out _).trans (((cell_far (p := ⟨gb338, _, none⟩) NB323_338.out _).trans (((cell_far (p := ⟨gb338, _, none⟩) NB323_338.out _).trans (((cell_far (p := ⟨gb338, _, none⟩) NB323_338.out _).trans (((cell_far (p := ⟨gb338, _, none⟩) NB323_338.out _).trans (hHeld.2.1)))))))))), ((cell_far (p := ⟨gb338, _, none⟩) NB323_338.out _).trans (((cell_far (p := ⟨gb338, _, none⟩) NB323_338.out _).trans (((cell_far (p := ⟨gb338, _, none⟩) NB323_338.out _).trans (((cell_far (p := ⟨gb338, _, none⟩) NB323_338.out _).trans (((cell_far (p := ⟨gb338, _, none⟩) NB323_338.out _).trans (hHeld.2.2.1)))))))))), ((cell_far (p := ⟨gb338, _, none⟩) (by first | exact Kd.own_blk (Kd.R_ne HO_6.out BK338.out (by decide)) | (rw [add_block]; exact Kd.own_blk (Kd.R_ne HO_6.out BK338.out (by decide))) | (show (Addr.add _ _).block ≠ _; rw [add_block]; exact Kd.own_blk (Kd.R_ne HO_6.out BK338.out (by decide))) | (dsimp only; exact Kd.own_blk (Kd.R_ne HO_6.out BK338.out (by decide)))) _).trans (((cell_far (p := ⟨gb338, _, none⟩) (by first | exact Kd.own_blk (Kd.R_ne HO_6.out BK338.out (by decide)) | (rw [add_block]; exact Kd.own_blk (Kd.R_ne HO_6.out BK338.out (by decide))) | (show (Addr.add _ _).block ≠ _; rw [add_block]; exact Kd.own_blk (Kd.R_ne HO_6.out BK338.out (by decide))) | (dsimp only; exact Kd.own_blk (Kd.R_ne HO_6.out BK338.out (by decide)))) _).trans (((cell_far (p := ⟨gb338, _, none⟩) (by first | exact Kd.own_blk (Kd.R_ne HO_6.out BK338.out (by decide)) | (rw [add_block]; exact Kd.own_blk (Kd.R_ne HO_6.out BK338.out (by decide))) | (show (Addr.add _ _).block ≠ _; rw [add_block]; exact Kd.own_blk (Kd.R_ne HO_6.out BK338.out (by decide))) | (dsimp only; exact Kd.own_blk (Kd.R_ne HO_6.out BK338.out (by decide)))) _).trans (((cell_far (p := ⟨gb338, _, none⟩) (by first | exact Kd.own_blk (Kd.R_ne HO_6.out BK338.out (by decide)) | (rw [add_block]; exact Kd.own_blk (Kd.R_ne HO_6.out BK338.out (by decide))) | (show (Addr.add _ _).block ≠ _; rw [add_block]; exact Kd.own_blk (Kd.R_ne HO_6.out BK338.out (by decide))) | (dsimp only; exact Kd.own_blk (Kd.R_ne HO_6.out BK338.out (by decide)))) _).trans (((cell_far (p := ⟨gb338, _, none⟩) (by first | exact Kd.own_blk (Kd.R_ne HO_6.out BK338.out (by decide)) | (rw [add_block]; exact Kd.own_blk (Kd.R_ne HO_6.out BK338.out (by decide))) | (show (Addr.add _ _).block ≠ _; rw [add_block]; exact Kd.own_blk (Kd.R_ne HO_6.out BK338.out (by decide))) | (dsimp only; exact Kd.own_blk (Kd.R_ne HO_6.out BK338.out (by decide)))) _).trans (hHeld.2.2.2))))))))))⟩ (fun hHeld => ?_)
         clear hK K
         refine pu 12 9 (bl 13 8191) ?_
         refine done_ (done_of HT_.out (by kernel_rfl)) ?_
         try go_wp2
         have n0 : Aside0 (Kd.R k49 49 (((((w37.setCell ⟨gb338, 0, none⟩ (.string t332)).setCell ⟨gb338, 1, none⟩ (.string t333)).setCell ⟨gb338, 2, none⟩ (.int .i64 t334)).setCell ⟨gb338, 3, none⟩ (.int .i64 t335)).setCell ⟨gb338, 4, none⟩ (.int .i64 t336)) w.heap.size (fun k_ => k_ ≠ gb338) u5 x5_1) := ⟨by (with_reducible repeat (first | apply Kd.R_alloc | apply Kd.R_drewN | apply Kd.R_drew)); exact Kd.R_mono (rf (Kd.R_mono HO_5.out (fun k_ hk => (⟨hk, hk⟩ : _ ∧ k_ ≠ gb338)))) (fun _ hk => hk.1)⟩
         have n1 : Aside0 (Kd.R Kd.string 9 (((((w37.setCell ⟨gb338, 0, none⟩ (.string t332)).setCell ⟨gb338, 1, none⟩ (.string t333)).setCell ⟨gb338, 2, none⟩ (.int .i64 t334)).setCell ⟨gb338, 3, none⟩ (.int .i64 t335)).setCell ⟨gb338, 4, none⟩ (.int .i64 t336)) w.heap.size (fun _ => True) (.slice (some ad331) t328.length co33) t328) := ⟨by (with_reducible repeat (first | apply Kd.R_alloc | apply Kd.R_drewN | apply Kd.R_drew)); exact Kd.R_mono (rf (Kd.R_types HO_6.out BK338.out (by decide))) (fun _ hk => trivial)⟩
         have n2 : Aside0 ((((((w37.setCell ⟨gb338, 0, none⟩ (.string t332)).setCell ⟨gb338, 1, none⟩ (.string t333)).setCell ⟨gb338, 2, none⟩ (.int .i64 t334)).setCell ⟨gb338, 3, none⟩ (.int .i64 t335)).setCell ⟨gb338, 4, none⟩ (.int .i64 t336)).heap[gb322]? = some (.cells #[.slice A0_0 l0_0.length c0_0] 65 (0, 0))) := ⟨bk BK322⟩
         have n3 : Aside0 ((((((w37.setCell ⟨gb338, 0, none⟩ (.string t332)).setCell ⟨gb338, 1, none⟩ (.string t333)).setCell ⟨gb338, 2, none⟩ (.int .i64 t334)).setCell ⟨gb338, 3, none⟩ (.int .i64 t335)).setCell ⟨gb338, 4, none⟩ (.int .i64 t336)).heap[gb323]? = some (.cells #[.string a1_0, .slice A1_1 l1_1.length c1_1] 40 (0, 0))) := ⟨bk BK323⟩
         have n4 : Aside0 ((((((w37.setCell ⟨gb338, 0, none⟩ (.string t332)).setCell ⟨gb338, 1, none⟩ (.string t333)).setCell ⟨gb338, 2, none⟩ (.int .i64 t334)).setCell ⟨gb338, 3, none⟩ (.int .i64 t335)).setCell ⟨gb338, 4, none⟩ (.int .i64 t336)).heap[gb338]? = some (.cells #[.string t332, .string t333, .int .i64 t334, .int .i64 t335, .int .i64 t336] 49 (0, 0))) := ⟨bp BK338⟩
         have n5 : Aside0 (Below w.heap.size w (((((w37.setCell ⟨gb338, 0, none⟩ (.string t332)).setCell ⟨gb338, 1, none⟩ (.string t333)).setCell ⟨gb338, 2, none⟩ (.int .i64 t334)).setCell ⟨gb338, 3, none⟩ (.int .i64 t335)).setCell ⟨gb338, 4, none⟩ (.int .i64 t336))) := ⟨bq⟩
         (try clear HO_5)
         (try clear HO_6)
         (try clear BK322)
         (try clear BK323)
         (try clear BK338)
         (try clear HB)
         generalize (((((w37.setCell ⟨gb338, 0, none⟩ (.string t332)).setCell ⟨gb338, 1, none⟩ (.string t333)).setCell ⟨gb338, 2, none⟩ (.int .i64 t334)).setCell ⟨gb338, 3, none⟩ (.int .i64 t335)).setCell ⟨gb338, 4, none⟩ (.int .i64 t336)) = w43 at n0 n1 n2 n3 n4 n5 ⊢
         have HO_5 := n0
         have HO_6 := n1
         have BK322 := n2
         have BK323 := n3
         have BK338 := n4
         have HB := n5
         clear n0 n1 n2 n3 n4 n5
         have _ := ra (Kd.R_drew HO_5.out)
         have _ := ra (Kd.R_drew HO_6.out)
         have _ := ra (blk_drew BK322.out)
         have _ := ra (blk_drew BK323.out)
         have _ := ra (blk_drew BK338.out)
         have _ := ra (below_drew1 HB.out)
         clear HO_5 HO_6 BK322 BK323 BK338 HB
         rename_i HO_5 HO_6 BK322 BK323 BK338 HB
         have p339 : 0 ≤ (x7_1 : Int) := od
         have q339 : x7_1 < (t328.length : Int) := od
         obtain ⟨ad339, e339, hx339_0⟩ := Kd.at_string (Kd.R_reads' HO_6.out).2.2 x7_1 p339 q339
         obtain rfl : ad331 = ad339 := (by injection e339)
         replace p339 := eq_true p339
         replace q339 := eq_true q339
         refine start_ (n := 10) (S := fun w' => w'.cell? ⟨gb323, 0, none⟩ = some (.string a1_0) ∧ w'.cell? ⟨gb323, 1, none⟩ = some (.slice A1_1 l1_1.length c1_1) ∧ w'.cell? (ad331.add (x7_1).toNat) = some (.string (rdOf ByteArray.empty t328 x7_1))) (ds := []) (bl 10 0) (by kernel_rfl) rfl rfl ⟨(blk_cell BK323.out 0).trans rfl, (blk_cell BK323.out 1).trans rfl, hx339_0⟩ (fun hHeld => ?_); refine with_tabW spec_ProbeAsk.tab9 spec_ProbeAsk.bits9 (fun HT_ HW_ => ?_)
         generalize w43.drew = w44 at HO_5 HO_6 BK322 BK323 BK338 HB hx339_0 hHeld ⊢
         refine pu 0 33 (bl 10 1) ?_
         refine pu 1 34 (bl 10 3) ?_
         refine pu 2 35 (bl 10 7) ?_
         refine pu 3 36 (bl 10 15) ?_
         refine pu 4 37 (bl 10 31) ?_
         refine pu 6 39 (bl 10 95) ?_
         refine tk 5 38 (bl 10 127) ?_ hHeld
         refine tk 7 40 (bl 10 255) ?_ hHeld
         refine pu 8 41 (bl 10 511) ?_
         refine pu 9 42 (bl 10 1023) ?_
         refine done_ (done_of HT_.out (by kernel_rfl)) ?_
         have hnb45 := NB338_322.out
         have hnc45 := NB322_338.out
         have hnb46 := NB338_323.out
         have hnc46 := NB323_338.out
         obtain ⟨hcz47_0, hcz47_1, hcz47_2, hcz47_3, hcz47_4, hfz47_0, hfz47_1, hfz47_2, hfz47_3, hfz47_4⟩ := zc5 BK338
         try go_wp2_with (first | ((with_reducible refine gate_builtin (b := .append) (xs := #[.tmp 43, .tmp 45]) rfl ?_); at_builtin; refine Kd.R_append k49 (w0 := w) w.heap.size rfl (.tmp 43) (.tmp 45) 24 49 (.agg #[(.string ⟨#[]⟩), (.string ⟨#[]⟩), (.int .i64 0), (.int .i64 0), (.int .i64 0)]) 56 rfl Try.underlying24 info49 rfl (by decide) (by omega) u5 x5_1 (⟨t332, t333, t334, t335, t336⟩ : S49) [.string t332, .string t333, .int .i64 t334, .int .i64 t335, .int .i64 t336] (fun k_ => k_ ≠ gb338) (fun _ => False) rfl rfl ?aP (fun _ hk => hk.elim) ?aF ?aO ?aB ?aS ?aL ?_; (case aP => exact k49_mkM _ _ _ (⟨t332, t333, t334, t335, t336⟩ : S49)); (case aB => exact bq); (case aF => exact (fun k_ hk => Kd.freshB (g := gb338) (o := .cells #[.string t332, .string t333, .int .i64 t334, .int .i64 t335, .int .i64 t336] 49 (0, 0)) (bk BK338) k_ hk)); (case aO => exact (rq HO_5)); (case aS => exact (below_size bq)); (case aL => have := LMc32.out; omega); intro v341 w48 ho hb hg hat; rw [← Ny340.out] at ho; have _ := ra (Kd.R_over' (rq HO_6) (Kd.R_typed (rq HO_5)) (by decide) hg); have _ := ra (blk_grown (g := gb322) (o := .cells #[.slice A0_0 l0_0.length c0_0] 65 (0, 0)) (bk BK322) hg (Kd.R_ne HO_5.out BK322.out (by decide))); have _ := ra (blk_grown (g := gb323) (o := .cells #[.string a1_0, .slice A1_1 l1_1.length c1_1] 40 (0, 0)) (bk BK323) hg (Kd.R_ne HO_5.out BK323.out (by decide))); have _ := ra (blk_grown (g := gb338) (o := .cells #[.string t332, .string t333, .int .i64 t334, .int .i64 t335, .int .i64 t336] 49 (0, 0)) (bk BK338) hg (Kd.R_away HO_5.out (fun _ hk => hk))); have _ := ra (hb); have _ := ra (ho); clear HO_6 BK322 BK323 BK338 HB HO_5; rename_i HO_6 BK322 BK323 BK338 HB HO342; clear ho hb hg hat))
         go_roundg k1
         case measure => have := HK1.out; omega
         case rel => exact ⟨(y340), (wrap64 (x7_1 + 1)), rs, H', ⟨by have := HK1.out; omega⟩, ⟨by (with_reducible repeat (first | apply Kd.R_alloc | apply Kd.R_drewN | apply Kd.R_drew)); exact Kd.R_mono HO342.out (fun _ hk => trivial)⟩, ⟨rq HO_6⟩, ⟨bk BK322⟩, ⟨bk BK323⟩, ⟨bq⟩⟩
        ·rw [if_neg c32] at H
         exact absurd H (by simp)
      ·replace c18 := Bool.eq_false_iff.mpr c18
       subst c18
       have H1 : (spec_ProbeAsk.l0 k1 x5_1 t328 (wrap64 (x7_1 + 1)) l0_0 a1_0 l1_1) = some r := by rw [if_neg (show ¬ (false = true) by decide)] at H; exact H
       clear H
       have H := H1
       clear H1
       have H' := Aside0.mk H
       clear H
       obtain ⟨Ao49, co49, eo49⟩ := Kd.R_slice HO_6.out
       subst eo49
       try go_wp2
       have _ := ra (Kd.R_drew HO_5.out)
       have _ := ra (Kd.R_drew HO_6.out)
       have _ := ra (blk_drew BK322.out)
       have _ := ra (blk_drew BK323.out)
       have _ := ra (below_drew1 HB.out)
       clear HO_5 HO_6 BK322 BK323 HB
       rename_i HO_5 HO_6 BK322 BK323 HB
       have p331 : 0 ≤ (x7_1 : Int) := od
       have q331 : x7_1 < (t328.length : Int) := od
       obtain ⟨ad331, e331, hx331_0⟩ := Kd.at_string (Kd.R_reads' HO_6.out).2.2 x7_1 p331 q331
       cases e331
       replace p331 := eq_true p331
       replace q331 := eq_true q331
       refine start_ (n := 13) (S := fun w' => w'.cell? ⟨gb322, 0, none⟩ = some (.slice A0_0 l0_0.length c0_0) ∧ w'.cell? ⟨gb323, 0, none⟩ = some (.string a1_0) ∧ w'.cell? ⟨gb323, 1, none⟩ = some (.slice A1_1 l1_1.length c1_1) ∧ w'.cell? (ad331.add (x7_1).toNat) = some (.string (rdOf ByteArray.empty t328 x7_1))) (ds := []) (bl 13 0) (by kernel_rfl) rfl rfl ⟨(blk_cell BK322.out 0).trans rfl, (blk_cell BK323.out 0).trans rfl, (blk_cell BK323.out 1).trans rfl, hx331_0⟩ (fun hHeld => ?_); refine with_tabW spec_ProbeAsk.tab8 spec_ProbeAsk.bits8 (fun HT_ HW_ => ?_)
       generalize wr.drew = w50 at HO_5 HO_6 BK322 BK323 HB hx331_0 hHeld ⊢
       refine pu 2 26 (bl 13 4) ?_
       refine pu 3 27 (bl 13 12) ?_
       refine pu 4 28 (bl 13 28) ?_
       refine tk 0 24 (bl 13 29) ?_ hHeld
       refine tk 1 25 (bl 13 31) ?_ hHeld
       refine tk 5 29 (bl 13 63) ?_ hHeld
       refine join_ (σ := Nat) 2 #[true, true, true, true, true, true, true, true, true, true, true, false, false] (fun s_ => [(30, .tuple #[.agg #[.string t332, .string t333, .int .i64 t334, .int .i64 t335, .int .i64 t336], .bool false]), (8, .pointer (some ⟨s_, 0, none⟩)), (23, .tuple #[.agg #[.string t332, .string t333, .int .i64 t334, .int .i64 t335, .int .i64 t336], .bool false]), (31, .agg #[.string t332, .string t333, .int .i64 t334, .int .i64 t335, .int .i64 t336]), (32, .bool false)]) (fun s_ w' => (w'.cell? ⟨gb322, 0, none⟩ = some (.slice A0_0 l0_0.length c0_0) ∧ w'.cell? ⟨gb323, 0, none⟩ = some (.string a1_0) ∧ w'.cell? ⟨gb323, 1, none⟩ = some (.slice A1_1 l1_1.length c1_1) ∧ w'.cell? (ad331.add (x7_1).toNat) = some (.string (rdOf ByteArray.empty t328 x7_1))) ∧ (Kd.R k49 49 w' w.heap.size (fun k_ => k_ ≠ s_) u5 x5_1) ∧ (Kd.R Kd.string 9 w' w.heap.size (fun _ => True) (.slice (some ad331) t328.length co49) t328) ∧ (w'.heap[gb322]? = some (.cells #[.slice A0_0 l0_0.length c0_0] 65 (0, 0))) ∧ (w'.heap[gb323]? = some (.cells #[.string a1_0, .slice A1_1 l1_1.length c1_1] 40 (0, 0))) ∧ (w'.heap[s_]? = some (.cells #[.string (⟨#[]⟩ : ByteArray), .string (⟨#[]⟩ : ByteArray), .int .i64 0, .int .i64 0, .int .i64 0] 49 (0, 0))) ∧ (w.heap.size ≤ s_) ∧ (w.heap.size ≤ s_) ∧ (gb322 ≠ s_) ∧ (s_ ≠ gb322) ∧ (gb323 ≠ s_) ∧ (s_ ≠ gb323) ∧ (Below w.heap.size w w')) ?_ ?_
       rotate_left
       ·intro hCont
        refine two_ (i := 6) (j := 10) (Ni := some 30) (Nj := some 8) #[true, true, true, true, true, true, true, false, false, false, false, false, false] #[true, true, true, true, true, true, false, false, false, false, true, false, false] rfl rfl rfl rfl (two_of HT_.out (by kernel_rfl)) (by decide) (by decide) (fun K hK => ?_) (fun K hK => ?_)
        ·skip
         refine gs Try.func74 #[.agg #[.slice A0_0 l0_0.length c0_0], .agg #[.string a1_0, .slice A1_1 l1_1.length c1_1], .string (rdOf ByteArray.empty t328 x7_1)] ?_
         with_reducible refine (spec_l5First.calls k1 _ _ l0_0 a1_0 _ _ l1_1 (rdOf ByteArray.empty t328 x7_1) t332 t333 t334 t335 t336 false _ ?side1 ?side2 ?side3 ?side4 A17.out).mono ?_
         (case side1 => exact sc HR0_0)
         (case side2 => exact HC0_0.out)
         (case side3 => exact sc HR1_1)
         (case side4 => exact HC1_1.out)
         rintro e w51 ⟨rfl, hb⟩
         have HS3_ := (hb.cell (World.block_lt_of_cell? _ _ (hHeld.2.2.2))).trans (hHeld.2.2.2)
         refine ⟨_, rfl, ?_⟩
         have _ := ra (Kd.R_below (rq HO_5) hb)
         have _ := ra (Kd.R_below (rq HO_6) hb)
         have _ := bb (bk BK322) hb
         have _ := bb (bk BK323) hb
         have _ := bs hb
         clear HO_5 HO_6 BK322 BK323 HB
         rename_i HO_5 HO_6 BK322 BK323 HB
         (try clear hb)
         (try clear hb2)
         (try clear hk)
         (try clear hi)
         refine hK.out _ _ ⟨(blk_cell BK322.out 0).trans rfl, (blk_cell BK323.out 0).trans rfl, (blk_cell BK323.out 1).trans rfl, HS3_⟩ (fun hHeld => ?_)
         clear hK K
         refine nm 30 ?_
         refine pu 7 23 (bl 13 255) ?_
         refine pu 8 31 (bl 13 511) ?_
         refine pu 9 32 (bl 13 1023) ?_
         refine oe 10 8 (bl 13 2047) (fun K hK => ?_)
         refine box_step ?hg (N := 8) ?hd (cs := #[.string (⟨#[]⟩ : ByteArray), .string (⟨#[]⟩ : ByteArray), .int .i64 0, .int .i64 0, .int .i64 0]) (t := 49) ?hr ?_; (case hd => rfl); (case hg => rfl); (case hr => first | (go_simp; done) | (go_simp; rfl))
         intro gb338 hg w52 hbox hb
         have HS3_ := (hb.cell (World.block_lt_of_cell? _ _ (hHeld.2.2.2))).trans (hHeld.2.2.2)
         have _ := ra (Kd.R_below (Kd.R_elderB (rq HO_5) gb338 (Nat.le_of_eq hg.symm)) hb)
         have _ := ra (Kd.R_below (rq HO_6) hb)
         have _ := bb (bk BK322) hb
         have _ := bb (bk BK323) hb
         have _ := bs hb
         have _ := ra (hbox)
         have _ := bz (w0 := w) hg
         have _ := bz (w0 := w) hg
         have _ := bn hg (bk BK322)
         have _ := bm hg (bk BK322)
         have _ := bn hg (bk BK323)
         have _ := bm hg (bk BK323)
         clear HO_5 HO_6 BK322 BK323 HB
         rename_i HO_5 HO_6 BK322 BK323 HB BK338 GW338 GE338 NB322_338 NB338_322 NB323_338 NB338_323
         clear hb hbox hg
         refine hK.out _ _ ⟨(blk_cell BK322.out 0).trans rfl, (blk_cell BK323.out 0).trans rfl, (blk_cell BK323.out 1).trans rfl, HS3_⟩ (fun hHeld => ?_)
         clear hK K
         refine nm 8 ?_
         exact norm_ (by simp only [putAll, Act.put, List.setIfInBounds_toArray, List.set_cons_zero, List.set_cons_succ]) (hCont (gb338) _ ⟨hHeld, (by (with_reducible repeat (first | apply Kd.R_alloc | apply Kd.R_drewN | apply Kd.R_drew)); exact Kd.R_mono HO_5.out (fun _ hk => hk.2)), (rq HO_6), (bk BK322), (bk BK323), (bk BK338), GW338.out, GE338.out, NB322_338.out, NB338_322.out, NB323_338.out, NB338_323.out, bq⟩)
        ·skip
         refine box_step ?hg (N := 8) ?hd (cs := #[.string (⟨#[]⟩ : ByteArray), .string (⟨#[]⟩ : ByteArray), .int .i64 0, .int .i64 0, .int .i64 0]) (t := 49) ?hr ?_; (case hd => rfl); (case hg => rfl); (case hr => first | (go_simp; done) | (go_simp; rfl))
         intro gb338 hg w51 hbox hb
         have HS3_ := (hb.cell (World.block_lt_of_cell? _ _ (hHeld.2.2.2))).trans (hHeld.2.2.2)
         have _ := ra (Kd.R_below (Kd.R_elderB (rq HO_5) gb338 (Nat.le_of_eq hg.symm)) hb)
         have _ := ra (Kd.R_below (rq HO_6) hb)
         have _ := bb (bk BK322) hb
         have _ := bb (bk BK323) hb
         have _ := bs hb
         have _ := ra (hbox)
         have _ := bz (w0 := w) hg
         have _ := bz (w0 := w) hg
         have _ := bn hg (bk BK322)
         have _ := bm hg (bk BK322)
         have _ := bn hg (bk BK323)
         have _ := bm hg (bk BK323)
         clear HO_5 HO_6 BK322 BK323 HB
         rename_i HO_5 HO_6 BK322 BK323 HB BK338 GW338 GE338 NB322_338 NB338_322 NB323_338 NB338_323
         clear hb hbox hg
         refine hK.out _ _ ⟨(blk_cell BK322.out 0).trans rfl, (blk_cell BK323.out 0).trans rfl, (blk_cell BK323.out 1).trans rfl, HS3_⟩ (fun hHeld => ?_)
         clear hK K
         refine nm 8 ?_
         refine oe 6 30 (bl 13 1151) (fun K hK => ?_)
         refine gs Try.func74 #[.agg #[.slice A0_0 l0_0.length c0_0], .agg #[.string a1_0, .slice A1_1 l1_1.length c1_1], .string (rdOf ByteArray.empty t328 x7_1)] ?_
         with_reducible refine (spec_l5First.calls k1 _ _ l0_0 a1_0 _ _ l1_1 (rdOf ByteArray.empty t328 x7_1) t332 t333 t334 t335 t336 false _ ?side1 ?side2 ?side3 ?side4 A17.out).mono ?_
         (case side1 => exact sc HR0_0)
         (case side2 => exact HC0_0.out)
         (case side3 => exact sc HR1_1)
         (case side4 => exact HC1_1.out)
         rintro e w52 ⟨rfl, hb⟩
         have HS3_ := (hb.cell (World.block_lt_of_cell? _ _ (hHeld.2.2.2))).trans (hHeld.2.2.2)
         refine ⟨_, rfl, ?_⟩
         have _ := ra (Kd.R_below (rq HO_5) hb)
         have _ := ra (Kd.R_below (rq HO_6) hb)
         have _ := bb (bk BK322) hb
         have _ := bb (bk BK323) hb
         have _ := bb (bk BK338) hb
         have _ := bs hb
         clear HO_5 HO_6 BK322 BK323 BK338 HB
         rename_i HO_5 HO_6 BK322 BK323 BK338 HB
         (try clear hb)
         (try clear hb2)
         (try clear hk)
         (try clear hi)
         refine hK.out _ _ ⟨(blk_cell BK322.out 0).trans rfl, (blk_cell BK323.out 0).trans rfl, (blk_cell BK323.out 1).trans rfl, HS3_⟩ (fun hHeld => ?_)
         clear hK K
         refine nm 30 ?_
         refine pu 7 23 (bl 13 1279) ?_
         refine pu 8 31 (bl 13 1535) ?_
         refine pu 9 32 (bl 13 2047) ?_
         exact norm_ (by simp only [putAll, Act.put, List.setIfInBounds_toArray, List.set_cons_zero, List.set_cons_succ]) (hCont (gb338) _ ⟨hHeld, (by (with_reducible repeat (first | apply Kd.R_alloc | apply Kd.R_drewN | apply Kd.R_drew)); exact Kd.R_mono HO_5.out (fun _ hk => hk.2)), (rq HO_6), (bk BK322), (bk BK323), (bk BK338), GW338.out, GE338.out, NB322_338.out, NB338_322.out, NB323_338.out, NB338_323.out, bq⟩)
       rintro gb338 w53 ⟨hS_, h0_, h1_, h2_, h3_, h4_, h5_, h6_, h7_, h8_, h9_, h10_, h11_⟩
       have _ : Aside0 (Kd.R k49 49 w53 w.heap.size (fun k_ => k_ ≠ gb338) u5 x5_1) := ⟨h0_⟩
       have _ : Aside0 (Kd.R Kd.string 9 w53 w.heap.size (fun _ => True) (.slice (some ad331) t328.length co49) t328) := ⟨h1_⟩
       have _ : Aside0 (w53.heap[gb322]? = some (.cells #[.slice A0_0 l0_0.length c0_0] 65 (0, 0))) := ⟨h2_⟩
       have _ : Aside0 (w53.heap[gb323]? = some (.cells #[.string a1_0, .slice A1_1 l1_1.length c1_1] 40 (0, 0))) := ⟨h3_⟩
       have _ : Aside0 (w53.heap[gb338]? = some (.cells #[.string (⟨#[]⟩ : ByteArray), .string (⟨#[]⟩ : ByteArray), .int .i64 0, .int .i64 0, .int .i64 0] 49 (0, 0))) := ⟨h4_⟩
       have _ : Aside0 (w.heap.size ≤ gb338) := ⟨h5_⟩
       have _ : Aside0 (w.heap.size ≤ gb338) := ⟨h6_⟩
       have _ : Aside0 (gb322 ≠ gb338) := ⟨h7_⟩
       have _ : Aside0 (gb338 ≠ gb322) := ⟨h8_⟩
       have _ : Aside0 (gb323 ≠ gb338) := ⟨h9_⟩
       have _ : Aside0 (gb338 ≠ gb323) := ⟨h10_⟩
       have _ : Aside0 (Below w.heap.size w w53) := ⟨h11_⟩
       clear HO_5 HO_6 BK322 BK323 HB
       clear h0_ h1_ h2_ h3_ h4_ h5_ h6_ h7_ h8_ h9_ h10_ h11_
       rename_i HO_5 HO_6 BK322 BK323 BK338 GW338 GE338 NB322_338 NB338_322 NB323_338 NB338_323 HB
       have hHeld : w53.cell? ⟨gb322, 0, none⟩ = some (.slice A0_0 l0_0.length c0_0) ∧ w53.cell? ⟨gb323, 0, none⟩ = some (.string a1_0) ∧ w53.cell? ⟨gb323, 1, none⟩ = some (.slice A1_1 l1_1.length c1_1) ∧ w53.cell? (ad331.add (x7_1).toNat) = some (.string (rdOf ByteArray.empty t328 x7_1)) := hS_
       refine norm_ (a' := ?_) ?_ ?_
       rotate_left
       ·simp only [putAll, Act.put, List.setIfInBounds_toArray, List.set_cons_zero, List.set_cons_succ]
        rfl
       refine one_ (i := 11) (N := none) #[true, true, true, true, true, true, true, true, true, true, true, true, false] rfl rfl (one_of HT_.out (by kernel_rfl)) (by decide) (fun K hK => ?_)
       have hs54 : w53.cell? ⟨gb338, 0, none⟩ = some (.string (⟨#[]⟩ : ByteArray)) := (blk_cell BK338.out 0).trans rfl
       have hfs54 := blk_frozen BK338.out 0
       have hns54_0 := NB322_338.out
       have hns54_1 := NB323_338.out
       have hms54_0 := NB338_322.out
       have hms54_1 := NB338_323.out
       have hs55 : w53.cell? ⟨gb338, 1, none⟩ = some (.string (⟨#[]⟩ : ByteArray)) := (blk_cell BK338.out 1).trans rfl
       have hfs55 := blk_frozen BK338.out 1
       have hns55_0 := NB322_338.out
       have hns55_1 := NB323_338.out
       have hms55_0 := NB338_322.out
       have hms55_1 := NB338_323.out
       have hs56 : w53.cell? ⟨gb338, 2, none⟩ = some (.int .i64 0) := (blk_cell BK338.out 2).trans rfl
       have hfs56 := blk_frozen BK338.out 2
       have hns56_0 := NB322_338.out
       have hns56_1 := NB323_338.out
       have hms56_0 := NB338_322.out
       have hms56_1 := NB338_323.out
       have hs57 : w53.cell? ⟨gb338, 3, none⟩ = some (.int .i64 0) := (blk_cell BK338.out 3).trans rfl
       have hfs57 := blk_frozen BK338.out 3
       have hns57_0 := NB322_338.out
       have hns57_1 := NB323_338.out
       have hms57_0 := NB338_322.out
       have hms57_1 := NB338_323.out
       have hs58 : w53.cell? ⟨gb338, 4, none⟩ = some (.int .i64 0) := (blk_cell BK338.out 4).trans rfl
       have hfs58 := blk_frozen BK338.out 4
       have hns58_0 := NB322_338.out
       have hns58_1 := NB323_338.out
       have hms58_0 := NB338_322.out
       have hms58_1 := NB338_323.out
       refine skip_ (w1 := ?_) (by rfl) rfl ?_ ?_
       rotate_left
       ·go_simp
        rfl
       refine hK.out _ _ ⟨((cell_far (p := ⟨gb338, _, none⟩) NB322_338.out _).trans (((cell_far (p := ⟨gb338, _, none⟩) NB322_338.out _).trans (((cell_far (p := ⟨gb338, _, none⟩) NB322_338.out _).trans (((cell_far (p := ⟨gb338, _, none⟩) NB322_338.out _).trans (((cell_far (p := ⟨gb338, _, none⟩) NB322_338.out _).trans (hHeld.1)))))))))), ((cell_far (p := ⟨gb338, _, none⟩) NB323_338.out _).trans (((cell_far (p := ⟨gb338, _, none⟩) NB323_338.out _).trans (((cell_far (p := ⟨gb338, _, none⟩) NB323_338.out _).trans (((cell_far (p := ⟨gb338, _, none⟩) NB323_338.out _).trans (((cell_far (p := ⟨gb338, _, none⟩) NB323_338.out _).trans (hHeld.2.1)))))))))), ((cell_far (p := ⟨gb338, _, none⟩) NB323_338.out _).trans (((cell_far (p := ⟨gb338, _, none⟩) NB323_338.out _).trans (((cell_far (p := ⟨gb338, _, none⟩) NB323_338.out _).trans (((cell_far (p := ⟨gb338, _, none⟩) NB323_338.out _).trans (((cell_far (p := ⟨gb338, _, none⟩) NB323_338.out _).trans (hHeld.2.2.1)))))))))), ((cell_far (p := ⟨gb338, _, none⟩) (by first | exact Kd.own_blk (Kd.R_ne HO_6.out BK338.out (by decide)) | (rw [add_block]; exact Kd.own_blk (Kd.R_ne HO_6.out BK338.out (by decide))) | (show (Addr.add _ _).block ≠ _; rw [add_block]; exact Kd.own_blk (Kd.R_ne HO_6.out BK338.out (by decide))) | (dsimp only; exact Kd.own_blk (Kd.R_ne HO_6.out BK338.out (by decide)))) _).trans (((cell_far (p := ⟨gb338, _, none⟩) (by first | exact Kd.own_blk (Kd.R_ne HO_6.out BK338.out (by decide)) | (rw [add_block]; exact Kd.own_blk (Kd.R_ne HO_6.out BK338.out (by decide))) | (show (Addr.add _ _).block ≠ _; rw [add_block]; exact Kd.own_blk (Kd.R_ne HO_6.out BK338.out (by decide))) | (dsimp only; exact Kd.own_blk (Kd.R_ne HO_6.out BK338.out (by decide)))) _).trans (((cell_far (p := ⟨gb338, _, none⟩) (by first | exact Kd.own_blk (Kd.R_ne HO_6.out BK338.out (by decide)) | (rw [add_block]; exact Kd.own_blk (Kd.R_ne HO_6.out BK338.out (by decide))) | (show (Addr.add _ _).block ≠ _; rw [add_block]; exact Kd.own_blk (Kd.R_ne HO_6.out BK338.out (by decide))) | (dsimp only; exact Kd.own_blk (Kd.R_ne HO_6.out BK338.out (by decide)))) _).trans (((cell_far (p := ⟨gb338, _, none⟩) (by first | exact Kd.own_blk (Kd.R_ne HO_6.out BK338.out (by decide)) | (rw [add_block]; exact Kd.own_blk (Kd.R_ne HO_6.out BK338.out (by decide))) | (show (Addr.add _ _).block ≠ _; rw [add_block]; exact Kd.own_blk (Kd.R_ne HO_6.out BK338.out (by decide))) | (dsimp only; exact Kd.own_blk (Kd.R_ne HO_6.out BK338.out (by decide)))) _).trans (((cell_far (p := ⟨gb338, _, none⟩) (by first | exact Kd.own_blk (Kd.R_ne HO_6.out BK338.out (by decide)) | (rw [add_block]; exact Kd.own_blk (Kd.R_ne HO_6.out BK338.out (by decide))) | (show (Addr.add _ _).block ≠ _; rw [add_block]; exact Kd.own_blk (Kd.R_ne HO_6.out BK338.out (by decide))) | (dsimp only; exact Kd.own_blk (Kd.R_ne HO_6.out BK338.out (by decide)))) _).trans (hHeld.2.2.2))))))))))⟩ (fun hHeld => ?_)
       clear hK K
       refine pu 12 9 (bl 13 8191) ?_
       refine done_ (done_of HT_.out (by kernel_rfl)) ?_
       try go_wp2
       have n0 : Aside0 (Kd.R k49 49 (((((w53.setCell ⟨gb338, 0, none⟩ (.string t332)).setCell ⟨gb338, 1, none⟩ (.string t333)).setCell ⟨gb338, 2, none⟩ (.int .i64 t334)).setCell ⟨gb338, 3, none⟩ (.int .i64 t335)).setCell ⟨gb338, 4, none⟩ (.int .i64 t336)) w.heap.size (fun k_ => k_ ≠ gb338) u5 x5_1) := ⟨by (with_reducible repeat (first | apply Kd.R_alloc | apply Kd.R_drewN | apply Kd.R_drew)); exact Kd.R_mono (rf (Kd.R_mono HO_5.out (fun k_ hk => (⟨hk, hk⟩ : _ ∧ k_ ≠ gb338)))) (fun _ hk => hk.1)⟩
       have n1 : Aside0 (Kd.R Kd.string 9 (((((w53.setCell ⟨gb338, 0, none⟩ (.string t332)).setCell ⟨gb338, 1, none⟩ (.string t333)).setCell ⟨gb338, 2, none⟩ (.int .i64 t334)).setCell ⟨gb338, 3, none⟩ (.int .i64 t335)).setCell ⟨gb338, 4, none⟩ (.int .i64 t336)) w.heap.size (fun _ => True) (.slice (some ad331) t328.length co49) t328) := ⟨by (with_reducible repeat (first | apply Kd.R_alloc | apply Kd.R_drewN | apply Kd.R_drew)); exact Kd.R_mono (rf (Kd.R_types HO_6.out BK338.out (by decide))) (fun _ hk => trivial)⟩
       have n2 : Aside0 ((((((w53.setCell ⟨gb338, 0, none⟩ (.string t332)).setCell ⟨gb338, 1, none⟩ (.string t333)).setCell ⟨gb338, 2, none⟩ (.int .i64 t334)).setCell ⟨gb338, 3, none⟩ (.int .i64 t335)).setCell ⟨gb338, 4, none⟩ (.int .i64 t336)).heap[gb322]? = some (.cells #[.slice A0_0 l0_0.length c0_0] 65 (0, 0))) := ⟨bk BK322⟩
       have n3 : Aside0 ((((((w53.setCell ⟨gb338, 0, none⟩ (.string t332)).setCell ⟨gb338, 1, none⟩ (.string t333)).setCell ⟨gb338, 2, none⟩ (.int .i64 t334)).setCell ⟨gb338, 3, none⟩ (.int .i64 t335)).setCell ⟨gb338, 4, none⟩ (.int .i64 t336)).heap[gb323]? = some (.cells #[.string a1_0, .slice A1_1 l1_1.length c1_1] 40 (0, 0))) := ⟨bk BK323⟩
       have n4 : Aside0 ((((((w53.setCell ⟨gb338, 0, none⟩ (.string t332)).setCell ⟨gb338, 1, none⟩ (.string t333)).setCell ⟨gb338, 2, none⟩ (.int .i64 t334)).setCell ⟨gb338, 3, none⟩ (.int .i64 t335)).setCell ⟨gb338, 4, none⟩ (.int .i64 t336)).heap[gb338]? = some (.cells #[.string t332, .string t333, .int .i64 t334, .int .i64 t335, .int .i64 t336] 49 (0, 0))) := ⟨bp BK338⟩
       have n5 : Aside0 (Below w.heap.size w (((((w53.setCell ⟨gb338, 0, none⟩ (.string t332)).setCell ⟨gb338, 1, none⟩ (.string t333)).setCell ⟨gb338, 2, none⟩ (.int .i64 t334)).setCell ⟨gb338, 3, none⟩ (.int .i64 t335)).setCell ⟨gb338, 4, none⟩ (.int .i64 t336))) := ⟨bq⟩
       (try clear HO_5)
       (try clear HO_6)
       (try clear BK322)
       (try clear BK323)
       (try clear BK338)
       (try clear HB)
       generalize (((((w53.setCell ⟨gb338, 0, none⟩ (.string t332)).setCell ⟨gb338, 1, none⟩ (.string t333)).setCell ⟨gb338, 2, none⟩ (.int .i64 t334)).setCell ⟨gb338, 3, none⟩ (.int .i64 t335)).setCell ⟨gb338, 4, none⟩ (.int .i64 t336)) = w59 at n0 n1 n2 n3 n4 n5 ⊢
       have HO_5 := n0
       have HO_6 := n1
       have BK322 := n2
       have BK323 := n3
       have BK338 := n4
       have HB := n5
       clear n0 n1 n2 n3 n4 n5
       have _ := ra (Kd.R_drew HO_5.out)
       have _ := ra (Kd.R_drew HO_6.out)
       have _ := ra (blk_drew BK322.out)
       have _ := ra (blk_drew BK323.out)
       have _ := ra (blk_drew BK338.out)
       have _ := ra (below_drew1 HB.out)
       clear HO_5 HO_6 BK322 BK323 BK338 HB
       rename_i HO_5 HO_6 BK322 BK323 BK338 HB
       refine start_ (n := 10) (S := fun w' => True) (ds := []) (bl 10 0) (by kernel_rfl) rfl rfl trivial (fun hHeld => ?_); refine with_tabW spec_ProbeAsk.tab9 spec_ProbeAsk.bits9 (fun HT_ HW_ => ?_)
       generalize w59.drew = w60 at HO_5 HO_6 BK322 BK323 BK338 HB hHeld ⊢
       refine pu 0 33 (bl 10 1) ?_
       refine pu 1 34 (bl 10 3) ?_
       refine pv 2 35 (bl 10 7) ?_
       refine pv 3 36 (bl 10 15) ?_
       refine pv 4 37 (bl 10 31) ?_
       refine pv 5 38 (bl 10 63) ?_
       refine pv 6 39 (bl 10 127) ?_
       refine pv 7 40 (bl 10 255) ?_
       refine pv 8 41 (bl 10 511) ?_
       refine pu 9 42 (bl 10 1023) ?_
       refine done_ (done_of HT_.out (by kernel_rfl)) ?_
       try go_wp2
       go_roundg k1
       case measure => have := HK1.out; omega
       case rel => exact ⟨(x5_1), (wrap64 (x7_1 + 1)), rs, H', ⟨by have := HK1.out; omega⟩, ⟨by (with_reducible repeat (first | apply Kd.R_alloc | apply Kd.R_drewN | apply Kd.R_drew)); exact Kd.R_mono HO_5.out (fun _ hk => trivial)⟩, ⟨rq HO_6⟩, ⟨bk BK322⟩, ⟨bk BK323⟩, ⟨bq⟩⟩
     ·rw [if_neg c16] at H
      exact absurd H (by simp)
    ·rw [if_neg c15] at H
     have c15b0 : decide (x7_1 < (t328.length : Int)) = false := decide_eq_false c15
     clear c15
     obtain rfl := Option.some.inj H
     obtain ⟨Ao61, co61, eo61⟩ := Kd.R_slice HO_6.out
     subst eo61
     go_wp2
     go_ret
     exact ⟨_, re, rq HO_5, bq⟩
 ·replace c4 := Bool.eq_false_iff.mpr c4
  subst c4
  have H1 : (some y324) = some r := by rw [if_neg (show ¬ (false = true) by decide)] at H; exact H
  clear H
  have H := H1
  clear H1
  obtain rfl := Option.some.inj H
  go_enter Try.func42, Try.ntmps42
  go_wp2_with (first | ((with_reducible refine gate_dst (N := 2) rfl ?_); refine be 2 #[.slice A0_0 l0_0.length c0_0] 65 ?_; intro gb322 hg w62 hbox hb; have _ := bs hb; have _ := ra (hbox); have _ := bz (w0 := w) hg; have _ := bz (w0 := w) hg; clear HB; rename_i HB BK322 GW322 GE322; clear hb hbox hg) | ((with_reducible refine gate_dst (N := 3) rfl ?_); refine be 3 #[.string a1_0, .slice A1_1 l1_1.length c1_1] 40 ?_; intro gb323 hg w63 hbox hb; have _ := bb (bk BK322) hb; have _ := bs hb; have _ := ra (hbox); have _ := bz (w0 := w) hg; have _ := bz (w0 := w) hg; have _ := bn hg (bk BK322); have _ := bm hg (bk BK322); clear BK322 HB; rename_i BK322 HB BK323 GW323 GE323 NB322_323 NB323_322; clear hb hbox hg) | ((with_reducible refine gate_dst (N := 10) rfl ?_); refine Kd.R_lit k49 _ 49 ?hg (N := 10) ?hd (xs := ([] : List (S49))) (inner := []) (ok := fun _ => True) (okp := fun _ => True) ?hr ?hp (fun _ hk => hk) trivial (Below.refl _ _) (Nat.le_refl _) (by simp) ?_; (case hd => rfl); (case hg => rfl); (case hr => first | (go_simp; done) | (go_simp; rfl)); (case hp => exact (Reps.none _ _)); intro v325 w64 ho65 hb hg_ hnew_; clear hg_ hnew_; (first | rw [← Ny324.out] at ho65 | (simp only [Int.reduceToNat] at ho65; rw [← Ny324.out] at ho65)); have _ := ra (Kd.R_lower ho65 (below_size bq)); have _ := bb (bk BK322) hb; have _ := bb (bk BK323) hb; have _ := bs hb; clear BK322 BK323 HB; rename_i HO326 BK322 BK323 HB; clear hb ho65; have hnb66 := NB323_322.out; have hnc66 := NB322_323.out; obtain ⟨hcz67_0, hcz67_1, hfz67_0, hfz67_1⟩ := zc2 BK323) | ((with_reducible refine gate_callee (f := 51) rfl ?_); refine gl (some 12) Try.func51 #[.agg #[.string a1_0, .slice A1_1 l1_1.length c1_1]] ?_; (with_reducible refine (spec_ProbeTubeOk.calls k a1_0 _ _ l1_1 false _ ?side1 ?side2 A3.out).mono ?_); (case side1 => exact sc HR1_1); (case side2 => exact HC1_1.out); rintro e w68 ⟨rfl, hb⟩; refine ⟨_, rfl, ?_⟩; have _ := ra (Kd.R_below (rq HO326) hb); have _ := bb (bk BK322) hb; have _ := bb (bk BK323) hb; have _ := bs hb; clear HO326 BK322 BK323 HB; rename_i HO326 BK322 BK323 HB; (try clear hb); (try clear hb2); (try clear hk); (try clear hi)))
  go_ret
  exact ⟨_, re, rq HO326, bq⟩
end Go.Proofs.Ytdbomnhdpniigaa.PA
