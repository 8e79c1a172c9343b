/- Contracts of the functions spec_l1Close, spec_l3Meet. (Began as a print of the kit's tool.) -/
import Derived.Test.YtdbomnhdpniigaaPAd
import Derived.Test.YtdbomnhdpniigaaCx
import Derived.Test.YtdbomnhdpniigaaGBase
namespace Go.Proofs.Ytdbomnhdpniigaa.PA
open Go.RowKit Go.Proofs.YtdbomnhdpniigaaW.PrintWords Go.Proofs.YtdbomnhdpniigaaW.PrintLast Go.Proofs.YtdbomnhdpniigaaW.PrintMore Go.Proofs.Ytdbomnhdpniigaa.Z
attribute [local go_sem] max2_int min2_int max_two min_two max_three min_three max_four min_four
set_option linter.unusedVariables false
set_option linter.unusedSimpArgs false
set_option maxHeartbeats 8000000 in
set_option maxRecDepth 100000 in
theorem spec_l1Close.calls (k : Nat) (a0_0 : Int) (a0_1 : Int) (a0_2 : Int) (a0_3 : Int) (a0_4 : Int) (a0_5 : Int) (a1_0 : Int) (a1_1 : Int) (a1_2 : Int) (a1_3 : Int) (a1_4 : Int) (a1_5 : Int) (r1 : Int) (r2 : Bool) (w : World) (h : spec_l1Close.f k a0_0 a0_1 a0_2 a0_3 a0_4 a0_5 a1_0 a1_1 a1_2 a1_3 a1_4 a1_5 = some (r1, r2)) :
  Calls Try.prog 79 #[.agg #[.int .i64 a0_0, .int .i64 a0_1, .int .i64 a0_2, .int .i64 a0_3, .int .i64 a0_4, .int .i64 a0_5], .agg #[.int .i64 a1_0, .int .i64 a1_1, .int .i64 a1_2, .int .i64 a1_3, .int .i64 a1_4, .int .i64 a1_5]] w fun e w' => e = .returned (.tuple #[.int .i64 r1, .bool r2]) ∧ Below w.heap.size w w' := by
 have hu95 := Try.underlying95
 have HB := ra (Below.refl w.heap.size w)
 have H : ((spec_l1In.f (wrap64 (a0_0 - a1_0)) (-1) 1).bind fun t121 => (if t121 = true then ((spec_l1In.f (wrap64 (a0_1 - a1_1)) (-1) 1).bind fun t122 => (if t122 = true then (if a0_2 > a1_3 then (spec_l1Close.j0 k true a0_0 a0_1 a0_2 a0_3 a0_4 a0_5 a1_0 a1_1 a1_2 a1_3 a1_4 a1_5) else (if a1_2 > a0_3 then (spec_l1Close.j0 k true a0_0 a0_1 a0_2 a0_3 a0_4 a0_5 a1_0 a1_1 a1_2 a1_3 a1_4 a1_5) else (if a0_4 > a1_5 then (spec_l1Close.j0 k true a0_0 a0_1 a0_2 a0_3 a0_4 a0_5 a1_0 a1_1 a1_2 a1_3 a1_4 a1_5) else (spec_l1Close.j0 k (decide (a1_4 > a0_5)) a0_0 a0_1 a0_2 a0_3 a0_4 a0_5 a1_0 a1_1 a1_2 a1_3 a1_4 a1_5)))) else (spec_l1Close.j0 k true a0_0 a0_1 a0_2 a0_3 a0_4 a0_5 a1_0 a1_1 a1_2 a1_3 a1_4 a1_5))) else (spec_l1Close.j0 k true a0_0 a0_1 a0_2 a0_3 a0_4 a0_5 a1_0 a1_1 a1_2 a1_3 a1_4 a1_5))) = some (r1, r2) := h
 clear h
 have HC3 := Aside0.mk H
 clear H
 go_enter Try.func79, Try.ntmps79
 go_upto_region 1 with (first | ((with_reducible refine gate_dst (N := 2) rfl ?_); refine be 2 #[.int .i64 a0_0, .int .i64 a0_1, .int .i64 a0_2, .int .i64 a0_3, .int .i64 a0_4, .int .i64 a0_5] 95 ?_; intro gb119 hg w4 hbox hb; have _ := bs hb; have _ := ra (hbox); have _ := bz (w0 := w) hg; have _ := bz (w0 := w) hg; clear HB; rename_i HB BK119 GW119 GE119; clear hb hbox hg) | ((with_reducible refine gate_dst (N := 3) rfl ?_); refine be 3 #[.int .i64 a1_0, .int .i64 a1_1, .int .i64 a1_2, .int .i64 a1_3, .int .i64 a1_4, .int .i64 a1_5] 95 ?_; intro gb120 hg w5 hbox hb; have _ := bb (bk BK119) hb; have _ := bs hb; have _ := ra (hbox); have _ := bz (w0 := w) hg; have _ := bz (w0 := w) hg; have _ := bn hg (bk BK119); have _ := bm hg (bk BK119); clear BK119 HB; rename_i BK119 HB BK120 GW120 GE120 NB119_120 NB120_119; clear hb hbox hg))
 (try simp only [Act.put, List.setIfInBounds_toArray, List.set_cons_zero, List.set_cons_succ])
 go_cut [49] (fun v49 wc => ∃ (kq : Nat) (x49_2 : Bool), v49 = .bool x49_2 ∧ Aside0 (spec_l1Close.j0 kq x49_2 a0_0 a0_1 a0_2 a0_3 a0_4 a0_5 a1_0 a1_1 a1_2 a1_3 a1_4 a1_5 = some (r1, r2)) ∧ Aside0 (kq ≤ k) ∧ Aside0 (wc.heap[gb119]? = some (.cells #[.int .i64 a0_0, .int .i64 a0_1, .int .i64 a0_2, .int .i64 a0_3, .int .i64 a0_4, .int .i64 a0_5] 95 (0, 0))) ∧ Aside0 (wc.heap[gb120]? = some (.cells #[.int .i64 a1_0, .int .i64 a1_1, .int .i64 a1_2, .int .i64 a1_3, .int .i64 a1_4, .int .i64 a1_5] 95 (0, 0))) ∧ Aside0 (Below w.heap.size w wc))
 case first =>
  have H := HC3.out
  clear HC3
  obtain ⟨t121, A6, H⟩ := bo H
  by_cases c7 : t121 = true
  ·subst c7
   replace H := it H rfl
   obtain ⟨t122, A8, H⟩ := bo H
   by_cases c9 : t122 = true
   ·subst c9
    replace H := it H rfl
    by_cases c10 : a0_2 > a1_3
    ·rw [if_pos c10] at H
     have c10b0 : decide (a1_3 < a0_2) = true := decide_eq_true c10
     clear c10
     (first | rw [c10b0] | (simp only [i64_w, i32_w]; rw [c10b0]) | skip)
     have H' := Aside0.mk H
     clear H
     have hnb11 := NB119_120.out
     have hnc11 := NB120_119.out
     obtain ⟨hcz12_0, hcz12_1, hcz12_2, hcz12_3, hcz12_4, hcz12_5, hfz12_0, hfz12_1, hfz12_2, hfz12_3, hfz12_4, hfz12_5⟩ := zc6 BK119
     obtain ⟨hcz13_0, hcz13_1, hcz13_2, hcz13_3, hcz13_4, hcz13_5, hfz13_0, hfz13_1, hfz13_2, hfz13_3, hfz13_4, hfz13_5⟩ := zc6 BK120
     go_wp2_with (first | ((with_reducible refine gate_callee (f := 105) rfl ?_); refine gl (some 11) Try.func105 #[.int .i64 (wrap64 (a0_0 - a1_0)), .int .i64 (-1), .int .i64 1] ?_; (with_reducible refine (spec_l1In.calls (wrap64 (a0_0 - a1_0)) (-1) 1 true _ A6.out).mono ?_); rintro e w' ⟨rfl, ⟨nd, rfl⟩⟩; refine ⟨_, rfl, ?_⟩) | (go_at_call 105; (with_reducible refine (spec_l1In.calls (wrap64 (a0_1 - a1_1)) (-1) 1 true _ A8.out).mono ?_); rintro e w' ⟨rfl, ⟨nd, rfl⟩⟩))
     go_meet
     case rel => exact ⟨_, (true), rs, H', ⟨by first | omega | exact Nat.le_refl _⟩, ⟨bk BK119⟩, ⟨bk BK120⟩, ⟨bq⟩⟩
    ·rw [if_neg c10] at H
     have c10b0 : decide (a1_3 < a0_2) = false := decide_eq_false c10
     clear c10
     (first | rw [c10b0] | (simp only [i64_w, i32_w]; rw [c10b0]) | skip)
     by_cases c14 : a1_2 > a0_3
     ·rw [if_pos c14] at H
      have c14b0 : decide (a0_3 < a1_2) = true := decide_eq_true c14
      clear c14
      have H' := Aside0.mk H
      clear H
      have hnb15 := NB119_120.out
      have hnc15 := NB120_119.out
      obtain ⟨hcz16_0, hcz16_1, hcz16_2, hcz16_3, hcz16_4, hcz16_5, hfz16_0, hfz16_1, hfz16_2, hfz16_3, hfz16_4, hfz16_5⟩ := zc6 BK119
      obtain ⟨hcz17_0, hcz17_1, hcz17_2, hcz17_3, hcz17_4, hcz17_5, hfz17_0, hfz17_1, hfz17_2, hfz17_3, hfz17_4, hfz17_5⟩ := zc6 BK120
      go_wp2_with (first | ((with_reducible refine gate_callee (f := 105) rfl ?_); refine gl (some 11) Try.func105 #[.int .i64 (wrap64 (a0_0 - a1_0)), .int .i64 (-1), .int .i64 1] ?_; (with_reducible refine (spec_l1In.calls (wrap64 (a0_0 - a1_0)) (-1) 1 true _ A6.out).mono ?_); rintro e w' ⟨rfl, ⟨nd, rfl⟩⟩; refine ⟨_, rfl, ?_⟩) | (go_at_call 105; (with_reducible refine (spec_l1In.calls (wrap64 (a0_1 - a1_1)) (-1) 1 true _ A8.out).mono ?_); rintro e w' ⟨rfl, ⟨nd, rfl⟩⟩))
      go_meet
      case rel => exact ⟨_, (true), rs, H', ⟨by first | omega | exact Nat.le_refl _⟩, ⟨bk BK119⟩, ⟨bk BK120⟩, ⟨bq⟩⟩
     ·rw [if_neg c14] at H
      have c14b0 : decide (a0_3 < a1_2) = false := decide_eq_false c14
      clear c14
      by_cases c18 : a0_4 > a1_5
      ·rw [if_pos c18] at H
       have c18b0 : decide (a1_5 < a0_4) = true := decide_eq_true c18
       clear c18
       have H' := Aside0.mk H
       clear H
       have hnb19 := NB119_120.out
       have hnc19 := NB120_119.out
       obtain ⟨hcz20_0, hcz20_1, hcz20_2, hcz20_3, hcz20_4, hcz20_5, hfz20_0, hfz20_1, hfz20_2, hfz20_3, hfz20_4, hfz20_5⟩ := zc6 BK119
       obtain ⟨hcz21_0, hcz21_1, hcz21_2, hcz21_3, hcz21_4, hcz21_5, hfz21_0, hfz21_1, hfz21_2, hfz21_3, hfz21_4, hfz21_5⟩ := zc6 BK120
       go_wp2_with (first | ((with_reducible refine gate_callee (f := 105) rfl ?_); refine gl (some 11) Try.func105 #[.int .i64 (wrap64 (a0_0 - a1_0)), .int .i64 (-1), .int .i64 1] ?_; (with_reducible refine (spec_l1In.calls (wrap64 (a0_0 - a1_0)) (-1) 1 true _ A6.out).mono ?_); rintro e w' ⟨rfl, ⟨nd, rfl⟩⟩; refine ⟨_, rfl, ?_⟩) | (go_at_call 105; (with_reducible refine (spec_l1In.calls (wrap64 (a0_1 - a1_1)) (-1) 1 true _ A8.out).mono ?_); rintro e w' ⟨rfl, ⟨nd, rfl⟩⟩))
       go_meet
       case rel => exact ⟨_, (true), rs, H', ⟨by first | omega | exact Nat.le_refl _⟩, ⟨bk BK119⟩, ⟨bk BK120⟩, ⟨bq⟩⟩
      ·rw [if_neg c18] at H
       have c18b0 : decide (a1_5 < a0_4) = false := decide_eq_false c18
       clear c18
       have H' := Aside0.mk H
       clear H
       have hnb22 := NB119_120.out
       have hnc22 := NB120_119.out
       obtain ⟨hcz23_0, hcz23_1, hcz23_2, hcz23_3, hcz23_4, hcz23_5, hfz23_0, hfz23_1, hfz23_2, hfz23_3, hfz23_4, hfz23_5⟩ := zc6 BK119
       obtain ⟨hcz24_0, hcz24_1, hcz24_2, hcz24_3, hcz24_4, hcz24_5, hfz24_0, hfz24_1, hfz24_2, hfz24_3, hfz24_4, hfz24_5⟩ := zc6 BK120
       go_wp2_with (first | ((with_reducible refine gate_callee (f := 105) rfl ?_); refine gl (some 11) Try.func105 #[.int .i64 (wrap64 (a0_0 - a1_0)), .int .i64 (-1), .int .i64 1] ?_; (with_reducible refine (spec_l1In.calls (wrap64 (a0_0 - a1_0)) (-1) 1 true _ A6.out).mono ?_); rintro e w' ⟨rfl, ⟨nd, rfl⟩⟩; refine ⟨_, rfl, ?_⟩) | (go_at_call 105; (with_reducible refine (spec_l1In.calls (wrap64 (a0_1 - a1_1)) (-1) 1 true _ A8.out).mono ?_); rintro e w' ⟨rfl, ⟨nd, rfl⟩⟩))
       go_meet
       case rel => exact ⟨_, (decide (a1_4 > a0_5)), rs, H', ⟨by first | omega | exact Nat.le_refl _⟩, ⟨bk BK119⟩, ⟨bk BK120⟩, ⟨bq⟩⟩
   ·replace c9 := Bool.eq_false_iff.mpr c9
    subst c9
    have H1 : (spec_l1Close.j0 k true a0_0 a0_1 a0_2 a0_3 a0_4 a0_5 a1_0 a1_1 a1_2 a1_3 a1_4 a1_5) = some (r1, r2) := by rw [if_neg (show ¬ (false = true) by decide)] at H; exact H
    clear H
    have H := H1
    clear H1
    have H' := Aside0.mk H
    clear H
    have hnb25 := NB119_120.out
    have hnc25 := NB120_119.out
    obtain ⟨hcz26_0, hcz26_1, hcz26_2, hcz26_3, hcz26_4, hcz26_5, hfz26_0, hfz26_1, hfz26_2, hfz26_3, hfz26_4, hfz26_5⟩ := zc6 BK119
    obtain ⟨hcz27_0, hcz27_1, hcz27_2, hcz27_3, hcz27_4, hcz27_5, hfz27_0, hfz27_1, hfz27_2, hfz27_3, hfz27_4, hfz27_5⟩ := zc6 BK120
    go_wp2_with (first | ((with_reducible refine gate_callee (f := 105) rfl ?_); refine gl (some 11) Try.func105 #[.int .i64 (wrap64 (a0_0 - a1_0)), .int .i64 (-1), .int .i64 1] ?_; (with_reducible refine (spec_l1In.calls (wrap64 (a0_0 - a1_0)) (-1) 1 true _ A6.out).mono ?_); rintro e w' ⟨rfl, ⟨nd, rfl⟩⟩; refine ⟨_, rfl, ?_⟩) | (go_at_call 105; (with_reducible refine (spec_l1In.calls (wrap64 (a0_1 - a1_1)) (-1) 1 false _ A8.out).mono ?_); rintro e w' ⟨rfl, ⟨nd, rfl⟩⟩))
    go_meet
    case rel => exact ⟨_, (true), rs, H', ⟨by first | omega | exact Nat.le_refl _⟩, ⟨bk BK119⟩, ⟨bk BK120⟩, ⟨bq⟩⟩
  ·replace c7 := Bool.eq_false_iff.mpr c7
   subst c7
   have H1 : (spec_l1Close.j0 k true a0_0 a0_1 a0_2 a0_3 a0_4 a0_5 a1_0 a1_1 a1_2 a1_3 a1_4 a1_5) = some (r1, r2) := by rw [if_neg (show ¬ (false = true) by decide)] at H; exact H
   clear H
   have H := H1
   clear H1
   have H' := Aside0.mk H
   clear H
   have hnb28 := NB119_120.out
   have hnc28 := NB120_119.out
   obtain ⟨hcz29_0, hcz29_1, hcz29_2, hcz29_3, hcz29_4, hcz29_5, hfz29_0, hfz29_1, hfz29_2, hfz29_3, hfz29_4, hfz29_5⟩ := zc6 BK119
   obtain ⟨hcz30_0, hcz30_1, hcz30_2, hcz30_3, hcz30_4, hcz30_5, hfz30_0, hfz30_1, hfz30_2, hfz30_3, hfz30_4, hfz30_5⟩ := zc6 BK120
   go_wp2_with (first | ((with_reducible refine gate_callee (f := 105) rfl ?_); refine gl (some 11) Try.func105 #[.int .i64 (wrap64 (a0_0 - a1_0)), .int .i64 (-1), .int .i64 1] ?_; (with_reducible refine (spec_l1In.calls (wrap64 (a0_0 - a1_0)) (-1) 1 false _ A6.out).mono ?_); rintro e w' ⟨rfl, ⟨nd, rfl⟩⟩; refine ⟨_, rfl, ?_⟩))
   go_meet
   case rel => exact ⟨_, (true), rs, H', ⟨by first | omega | exact Nat.le_refl _⟩, ⟨bk BK119⟩, ⟨bk BK120⟩, ⟨bq⟩⟩
 case rest =>
  clear HC3
  try clear c7
  try clear c9
  try clear c10
  try clear c10b0
  try clear c14
  try clear c14b0
  try clear c18
  try clear c18b0
  try clear hcz12_0
  try clear hcz12_1
  try clear hcz12_2
  try clear hcz12_3
  try clear hcz12_4
  try clear hcz12_5
  try clear hcz13_0
  try clear hcz13_1
  try clear hcz13_2
  try clear hcz13_3
  try clear hcz13_4
  try clear hcz13_5
  try clear hcz16_0
  try clear hcz16_1
  try clear hcz16_2
  try clear hcz16_3
  try clear hcz16_4
  try clear hcz16_5
  try clear hcz17_0
  try clear hcz17_1
  try clear hcz17_2
  try clear hcz17_3
  try clear hcz17_4
  try clear hcz17_5
  try clear hcz20_0
  try clear hcz20_1
  try clear hcz20_2
  try clear hcz20_3
  try clear hcz20_4
  try clear hcz20_5
  try clear hcz21_0
  try clear hcz21_1
  try clear hcz21_2
  try clear hcz21_3
  try clear hcz21_4
  try clear hcz21_5
  try clear hcz23_0
  try clear hcz23_1
  try clear hcz23_2
  try clear hcz23_3
  try clear hcz23_4
  try clear hcz23_5
  try clear hcz24_0
  try clear hcz24_1
  try clear hcz24_2
  try clear hcz24_3
  try clear hcz24_4
  try clear hcz24_5
  try clear hcz26_0
  try clear hcz26_1
  try clear hcz26_2
  try clear hcz26_3
  try clear hcz26_4
  try clear hcz26_5
  try clear hcz27_0
  try clear hcz27_1
  try clear hcz27_2
  try clear hcz27_3
  try clear hcz27_4
  try clear hcz27_5
  try clear hcz29_0
  try clear hcz29_1
  try clear hcz29_2
  try clear hcz29_3
  try clear hcz29_4
  try clear hcz29_5
  try clear hcz30_0
  try clear hcz30_1
  try clear hcz30_2
  try clear hcz30_3
  try clear hcz30_4
  try clear hcz30_5
  try clear hfz12_0
  try clear hfz12_1
  try clear hfz12_2
  try clear hfz12_3
  try clear hfz12_4
  try clear hfz12_5
  try clear hfz13_0
  try clear hfz13_1
  try clear hfz13_2
  try clear hfz13_3
  try clear hfz13_4
  try clear hfz13_5
  try clear hfz16_0
  try clear hfz16_1
  try clear hfz16_2
  try clear hfz16_3
  try clear hfz16_4
  try clear hfz16_5
  try clear hfz17_0
  try clear hfz17_1
  try clear hfz17_2
  try clear hfz17_3
  try clear hfz17_4
  try clear hfz17_5
  try clear hfz20_0
  try clear hfz20_1
  try clear hfz20_2
  try clear hfz20_3
  try clear hfz20_4
  try clear hfz20_5
  try clear hfz21_0
  try clear hfz21_1
  try clear hfz21_2
  try clear hfz21_3
  try clear hfz21_4
  try clear hfz21_5
  try clear hfz23_0
  try clear hfz23_1
  try clear hfz23_2
  try clear hfz23_3
  try clear hfz23_4
  try clear hfz23_5
  try clear hfz24_0
  try clear hfz24_1
  try clear hfz24_2
  try clear hfz24_3
  try clear hfz24_4
  try clear hfz24_5
  try clear hfz26_0
  try clear hfz26_1
  try clear hfz26_2
  try clear hfz26_3
  try clear hfz26_4
  try clear hfz26_5
  try clear hfz27_0
  try clear hfz27_1
  try clear hfz27_2
  try clear hfz27_3
  try clear hfz27_4
  try clear hfz27_5
  try clear hfz29_0
  try clear hfz29_1
  try clear hfz29_2
  try clear hfz29_3
  try clear hfz29_4
  try clear hfz29_5
  try clear hfz30_0
  try clear hfz30_1
  try clear hfz30_2
  try clear hfz30_3
  try clear hfz30_4
  try clear hfz30_5
  obtain ⟨kq, x49_2, rfl, HA, HJ2, BK119, BK120, HB⟩ := hcut
  cases kq with
  | zero => exact absurd HA.out (by simp [spec_l1Close.j0])
  | succ kj2 =>
   have H := HA.out
   clear HA
   simp only [spec_l1Close.j0] at H
   by_cases c31 : x49_2 = true
   ·subst c31
    replace H := it H rfl
    simp only [Option.some.injEq, Prod.mk.injEq] at H
    obtain ⟨rfl, rfl⟩ := H
    go_wp2
    go_ret2
    exact ⟨re, bq⟩
   ·replace c31 := Bool.eq_false_iff.mpr c31
    subst c31
    have H1 : (if a0_4 > a1_4 then (some (a0_4, true)) else (some (a1_4, true))) = some (r1, r2) := by rw [if_neg (show ¬ (false = true) by decide)] at H; exact H
    clear H
    have H := H1
    clear H1
    by_cases c32 : a0_4 > a1_4
    ·rw [if_pos c32] at H
     have c32b0 : decide (a1_4 < a0_4) = true := decide_eq_true c32
     clear c32
     simp only [Option.some.injEq, Prod.mk.injEq] at H
     obtain ⟨rfl, rfl⟩ := H
     have hnb33 := NB119_120.out
     have hnc33 := NB120_119.out
     obtain ⟨hcz34_0, hcz34_1, hcz34_2, hcz34_3, hcz34_4, hcz34_5, hfz34_0, hfz34_1, hfz34_2, hfz34_3, hfz34_4, hfz34_5⟩ := zc6 BK119
     obtain ⟨hcz35_0, hcz35_1, hcz35_2, hcz35_3, hcz35_4, hcz35_5, hfz35_0, hfz35_1, hfz35_2, hfz35_3, hfz35_4, hfz35_5⟩ := zc6 BK120
     go_wp2
     go_ret2
     exact ⟨re, bq⟩
    ·rw [if_neg c32] at H
     have c32b0 : decide (a1_4 < a0_4) = false := decide_eq_false c32
     clear c32
     simp only [Option.some.injEq, Prod.mk.injEq] at H
     obtain ⟨rfl, rfl⟩ := H
     have hnb36 := NB119_120.out
     have hnc36 := NB120_119.out
     obtain ⟨hcz37_0, hcz37_1, hcz37_2, hcz37_3, hcz37_4, hcz37_5, hfz37_0, hfz37_1, hfz37_2, hfz37_3, hfz37_4, hfz37_5⟩ := zc6 BK119
     obtain ⟨hcz38_0, hcz38_1, hcz38_2, hcz38_3, hcz38_4, hcz38_5, hfz38_0, hfz38_1, hfz38_2, hfz38_3, hfz38_4, hfz38_5⟩ := zc6 BK120
     go_wp2
     go_ret2
     exact ⟨re, bq⟩
def spec_l3Meet.T9 : Bool × List (List Nat × List Nat) := (true, [([], []), ([0], [0]), ([], []), ([1, 2], [1, 2]), ([3], [3]), ([], []), ([5], [5]), ([], []), ([6, 7], [6, 7]), ([8], [8]), ([4, 9], [4, 9]), ([10], [10]), ([11], [11]), ([11], [11]), ([12, 10, 0, 1, 2, 3, 4, 5, 6, 7, 8, 9, 10, 11, 12], [12]), ([13, 14, 0, 1, 2, 3, 4, 5, 6, 7, 8, 9, 10, 11, 12, 13, 14], [13])])
def spec_l3Meet.B9 : List Nat := [0, 1, 0, 7, 15, 0, 32, 0, 224, 480, 1023, 2047, 4095, 4095, 8191, 32767]
theorem spec_l3Meet.tab9 : rtab .any (opsOf Try.f45 9) = spec_l3Meet.T9 := by kernel_rfl
theorem spec_l3Meet.bits9 : waitsOk spec_l3Meet.T9.2 spec_l3Meet.B9 = true := by kernel_rfl
set_option maxHeartbeats 8000000 in
set_option maxRecDepth 100000 in
theorem spec_l3Meet.calls (k : Nat) (a0_0 : ByteArray) (A0_1 : Option Addr) (c0_1 : Nat) (l0_1 : List (S95)) (a1_0 : ByteArray) (A1_1 : Option Addr) (c1_1 : Nat) (l1_1 : List (S95)) (r1 : ByteArray) (r2 : ByteArray) (r3 : Int) (r4 : Int) (r5 : Int) (r6 : Bool) (w : World) (hr0_1 : Kd.C k95 w A0_1 l0_1.length l0_1) (hc0_1 : l0_1.length ≤ c0_1) (hr1_1 : Kd.C k95 w A1_1 l1_1.length l1_1) (hc1_1 : l1_1.length ≤ c1_1) (h : spec_l3Meet.f k a0_0 l0_1 a1_0 l1_1 = some (r1, r2, r3, r4, r5, r6)) :
  Calls Try.prog 45 #[.agg #[.string a0_0, .slice A0_1 l0_1.length c0_1], .agg #[.string a1_0, .slice A1_1 l1_1.length c1_1]] w fun e w' => e = .returned (.tuple #[.agg #[.string r1, .string r2, .int .i64 r3, .int .i64 r4, .int .i64 r5], .bool r6]) ∧ Below w.heap.size w w' := by
 have hu40 := Try.underlying40
 have hu49 := Try.underlying49
 have hu95 := Try.underlying95
 have HR0_1 := Aside0.mk hr0_1
 have HC0_1 := Aside0.mk hc0_1
 clear hr0_1 hc0_1
 have HR1_1 := Aside0.mk hr1_1
 have HC1_1 := Aside0.mk hc1_1
 clear hr1_1 hc1_1
 have HB := ra (Below.refl w.heap.size w)
 have H : (spec_l3Meet.l0 k false 0 a0_0 l0_1 a1_0 l1_1 (⟨#[]⟩ : ByteArray) (⟨#[]⟩ : ByteArray) 0 0 0) = some (r1, r2, r3, r4, r5, r6) := h
 clear h
 have H' := Aside0.mk H
 clear H
 go_enter Try.func45, Try.ntmps45
 go_wp2_with (first | ((with_reducible refine gate_dst (N := 2) rfl ?_); refine be 2 #[.string a0_0, .slice A0_1 l0_1.length c0_1] 40 ?_; intro gb123 hg w3 hbox hb; have _ := bs hb; have _ := ra (hbox); have _ := bz (w0 := w) hg; have _ := bz (w0 := w) hg; clear HB; rename_i HB BK123 GW123 GE123; clear hb hbox hg) | ((with_reducible refine gate_dst (N := 3) rfl ?_); refine be 3 #[.string a1_0, .slice A1_1 l1_1.length c1_1] 40 ?_; intro gb124 hg w4 hbox hb; have _ := bb (bk BK123) hb; have _ := bs hb; have _ := ra (hbox); have _ := bz (w0 := w) hg; have _ := bz (w0 := w) hg; have _ := bn hg (bk BK123); have _ := bm hg (bk BK123); clear BK123 HB; rename_i BK123 HB BK124 GW124 GE124 NB123_124 NB124_123; clear hb hbox hg) | ((with_reducible refine gate_dst (N := 4) rfl ?_); refine be 4 #[.string (⟨#[]⟩ : ByteArray), .string (⟨#[]⟩ : ByteArray), .int .i64 0, .int .i64 0, .int .i64 0] 49 ?_; intro gb125 hg w5 hbox hb; have _ := bb (bk BK123) hb; have _ := bb (bk BK124) hb; have _ := bs hb; have _ := ra (hbox); have _ := bz (w0 := w) hg; have _ := bz (w0 := w) hg; have _ := bn hg (bk BK123); have _ := bm hg (bk BK123); have _ := bn hg (bk BK124); have _ := bm hg (bk BK124); clear BK123 BK124 HB; rename_i BK123 BK124 HB BK125 GW125 GE125 NB123_125 NB125_123 NB124_125 NB125_124; clear hb hbox hg) | ((with_reducible refine gate_dst (N := 6) rfl ?_); refine be 6 #[.string (⟨#[]⟩ : ByteArray), .string (⟨#[]⟩ : ByteArray), .int .i64 0, .int .i64 0, .int .i64 0] 49 ?_; intro gb126 hg w6 hbox hb; have _ := bb (bk BK123) hb; have _ := bb (bk BK124) hb; have _ := bb (bk BK125) hb; have _ := bs hb; have _ := ra (hbox); have _ := bz (w0 := w) hg; have _ := bz (w0 := w) hg; have _ := bn hg (bk BK123); have _ := bm hg (bk BK123); have _ := bn hg (bk BK124); have _ := bm hg (bk BK124); have _ := bn hg (bk BK125); have _ := bm hg (bk BK125); clear BK123 BK124 BK125 HB; rename_i BK123 BK124 BK125 HB BK126 GW126 GE126 NB123_126 NB126_123 NB124_126 NB126_124 NB125_126 NB126_125; clear hb hbox hg; have hnb7 := NB126_123.out; have hnc7 := NB123_126.out; have hnb8 := NB126_124.out; have hnc8 := NB124_126.out; have hnb9 := NB126_125.out; have hnc9 := NB125_126.out; obtain ⟨hcz10_0, hcz10_1, hcz10_2, hcz10_3, hcz10_4, hfz10_0, hfz10_1, hfz10_2, hfz10_3, hfz10_4⟩ := zc5 BK126))
 go_loopg [7, 8] k (fun kq v7 v8 w' => ∃ (x7_1 : Bool) (x8_1 : Int) (x127000_1 : ByteArray) (x127001_1 : ByteArray) (x127002_1 : Int) (x127003_1 : Int) (x127004_1 : Int), v7 = .bool x7_1 ∧ v8 = .int .i64 x8_1 ∧ Aside0 (spec_l3Meet.l0 kq x7_1 x8_1 a0_0 l0_1 a1_0 l1_1 x127000_1 x127001_1 x127002_1 x127003_1 x127004_1 = some (r1, r2, r3, r4, r5, r6)) ∧ Aside0 (kq ≤ k) ∧ Aside0 (w'.heap[gb123]? = some (.cells #[.string a0_0, (.slice A0_1 l0_1.length c0_1)] 40 (0, 0))) ∧ Aside0 (w'.heap[gb124]? = some (.cells #[.string a1_0, (.slice A1_1 l1_1.length c1_1)] 40 (0, 0))) ∧ Aside0 (w'.heap[gb125]? = some (.cells #[.string (⟨#[]⟩ : ByteArray), .string (⟨#[]⟩ : ByteArray), .int .i64 0, .int .i64 0, .int .i64 0] 49 (0, 0))) ∧ Aside0 (w'.heap[gb126]? = some (.cells #[.string x127000_1, .string x127001_1, .int .i64 x127002_1, .int .i64 x127003_1, .int .i64 x127004_1] 49 (0, 0))) ∧ Aside0 (Below w.heap.size w w'))
 case atStart => exact ⟨(false), (0), ((⟨#[]⟩ : ByteArray)), ((⟨#[]⟩ : ByteArray)), (0), (0), (0), rs, rs, H', ⟨Nat.le_refl _⟩, ⟨bk BK123⟩, ⟨bk BK124⟩, ⟨bk BK125⟩, ⟨bp BK126⟩, ⟨bq⟩⟩
 case round =>
  clear H'
  try clear hcz10_0
  try clear hcz10_1
  try clear hcz10_2
  try clear hcz10_3
  try clear hcz10_4
  try clear hfz10_0
  try clear hfz10_1
  try clear hfz10_2
  try clear hfz10_3
  try clear hfz10_4
  obtain ⟨x7_1, x8_1, x127000_1, x127001_1, x127002_1, x127003_1, x127004_1, rfl, rfl, HA, HK1, BK123, BK124, BK125, BK126, HB⟩ := hrel
  cases gk with
  | zero => exact absurd HA.out (by simp [spec_l3Meet.l0])
  | succ k1 =>
   have H := HA.out
   clear HA
   simp only [spec_l3Meet.l0] at H
   by_cases c11 : x8_1 < (l0_1.length : Int)
   ·rw [if_pos c11] at H
    have c11b0 : decide (x8_1 < (l0_1.length : Int)) = true := decide_eq_true c11
    clear c11
    have H' := Aside0.mk H
    clear H
    have hnb12 := NB123_124.out
    have hnc12 := NB124_123.out
    have hnb13 := NB123_125.out
    have hnc13 := NB125_123.out
    have hnb14 := NB123_126.out
    have hnc14 := NB126_123.out
    obtain ⟨hcz15_0, hcz15_1, hfz15_0, hfz15_1⟩ := zc2 BK123
    go_wp2
    go_loopg [7, 9] k1 (fun kq v7 v9 w' => ∃ (x7_2 : Bool) (x9_2 : Int) (x127000_2 : ByteArray) (x127001_2 : ByteArray) (x127002_2 : Int) (x127003_2 : Int) (x127004_2 : Int), v7 = .bool x7_2 ∧ v9 = .int .i64 x9_2 ∧ Aside0 (spec_l3Meet.l1 kq x7_2 x8_1 x9_2 a0_0 l0_1 a1_0 l1_1 x127000_2 x127001_2 x127002_2 x127003_2 x127004_2 = some (r1, r2, r3, r4, r5, r6)) ∧ Aside0 (kq ≤ k1) ∧ Aside0 (w'.heap[gb123]? = some (.cells #[.string a0_0, (.slice A0_1 l0_1.length c0_1)] 40 (0, 0))) ∧ Aside0 (w'.heap[gb124]? = some (.cells #[.string a1_0, (.slice A1_1 l1_1.length c1_1)] 40 (0, 0))) ∧ Aside0 (w'.heap[gb125]? = some (.cells #[.string (⟨#[]⟩ : ByteArray), .string (⟨#[]⟩ : ByteArray), .int .i64 0, .int .i64 0, .int .i64 0] 49 (0, 0))) ∧ Aside0 (w'.heap[gb126]? = some (.cells #[.string x127000_2, .string x127001_2, .int .i64 x127002_2, .int .i64 x127003_2, .int .i64 x127004_2] 49 (0, 0))) ∧ Aside0 (Below w.heap.size w w'))
    case atStart => exact ⟨(x7_1), (0), (x127000_1), (x127001_1), (x127002_1), (x127003_1), (x127004_1), rs, rs, H', ⟨Nat.le_refl _⟩, ⟨bk BK123⟩, ⟨bk BK124⟩, ⟨bk BK125⟩, ⟨bk BK126⟩, ⟨bq⟩⟩
    case round =>
     clear H'
     try clear c11
     try clear c11b0
     try clear hcz10_0
     try clear hcz10_1
     try clear hcz10_2
     try clear hcz10_3
     try clear hcz10_4
     try clear hcz15_0
     try clear hcz15_1
     try clear hfz10_0
     try clear hfz10_1
     try clear hfz10_2
     try clear hfz10_3
     try clear hfz10_4
     try clear hfz15_0
     try clear hfz15_1
     obtain ⟨x7_2, x9_2, x127000_2, x127001_2, x127002_2, x127003_2, x127004_2, rfl, rfl, HA, HK2, BK123, BK124, BK125, BK126, HB⟩ := hrel
     cases gk with
     | zero => exact absurd HA.out (by simp [spec_l3Meet.l1])
     | succ k2 =>
      have H := HA.out
      clear HA
      simp only [spec_l3Meet.l1] at H
      by_cases c16 : x9_2 < (l1_1.length : Int)
      ·rw [if_pos c16] at H
       have c16b0 : decide (x9_2 < (l1_1.length : Int)) = true := decide_eq_true c16
       clear c16
       by_cases c17 : 0 ≤ x8_1
       ·rw [if_pos c17] at H
        have c17b0 : decide (0 ≤ x8_1) = true := decide_eq_true c17
        clear c17
        by_cases c18 : x8_1 < (l0_1.length : Int)
        ·rw [if_pos c18] at H
         have c18b0 : decide (x8_1 < (l0_1.length : Int)) = true := decide_eq_true c18
         clear c18
         by_cases c19 : 0 ≤ x9_2
         ·rw [if_pos c19] at H
          have c19b0 : decide (0 ≤ x9_2) = true := decide_eq_true c19
          clear c19
          obtain ⟨⟨t129, t130⟩, A20, H⟩ := bo H
          try dsimp only at H
          by_cases c21 : t130 = true
          ·subst c21
           replace H := it H rfl
           by_cases c22 : x7_2 = true
           ·subst c22
            replace H := it H rfl
            by_cases c23 : t129 < x127002_2
            ·rw [if_pos c23] at H
             have c23b0 : decide (t129 < x127002_2) = true := decide_eq_true c23
             clear c23
             have H' := Aside0.mk H
             clear H
             have hnb24 := NB124_123.out
             have hnc24 := NB123_124.out
             have hnb25 := NB124_125.out
             have hnc25 := NB125_124.out
             have hnb26 := NB124_126.out
             have hnc26 := NB126_124.out
             obtain ⟨hcz27_0, hcz27_1, hfz27_0, hfz27_1⟩ := zc2 BK124
             try go_wp2
             have _ := ra (blk_drew BK123.out)
             have _ := ra (blk_drew BK124.out)
             have _ := ra (blk_drew BK125.out)
             have _ := ra (blk_drew BK126.out)
             have _ := ra (below_drew1 HB.out)
             clear BK123 BK124 BK125 BK126 HB
             rename_i BK123 BK124 BK125 BK126 HB
             have p127 : 0 ≤ (x8_1 : Int) := od
             have q127 : x8_1 < (l0_1.length : Int) := od
             obtain ⟨ad127, e127, hx127_0, hx127_1, hx127_2, hx127_3, hx127_4, hx127_5⟩ := at_T95 HR0_1.out x8_1 p127 q127
             have hw127_5 := hx127_5
             have hw127_4 := hx127_4
             have hw127_3 := hx127_3
             have hw127_2 := hx127_2
             have hw127_1 := hx127_1
             have hw127_0 := hx127_0
             cases e127
             replace hx127_0 := hc HB hx127_0
             replace hx127_1 := hc HB hx127_1
             replace hx127_2 := hc HB hx127_2
             replace hx127_3 := hc HB hx127_3
             replace hx127_4 := hc HB hx127_4
             replace hx127_5 := hc HB hx127_5
             replace p127 := eq_true p127
             replace q127 := eq_true q127
             have p128 : 0 ≤ (x9_2 : Int) := od
             have q128 : x9_2 < (l1_1.length : Int) := od
             obtain ⟨ad128, e128, hx128_0, hx128_1, hx128_2, hx128_3, hx128_4, hx128_5⟩ := at_T95 HR1_1.out x9_2 p128 q128
             have hw128_5 := hx128_5
             have hw128_4 := hx128_4
             have hw128_3 := hx128_3
             have hw128_2 := hx128_2
             have hw128_1 := hx128_1
             have hw128_0 := hx128_0
             cases e128
             replace hx128_0 := hc HB hx128_0
             replace hx128_1 := hc HB hx128_1
             replace hx128_2 := hc HB hx128_2
             replace hx128_3 := hc HB hx128_3
             replace hx128_4 := hc HB hx128_4
             replace hx128_5 := hc HB hx128_5
             replace p128 := eq_true p128
             replace q128 := eq_true q128
             refine start_ (n := 16) (S := fun w' => w'.cell? ⟨gb123, 0, none⟩ = some (.string a0_0) ∧ w'.cell? ⟨gb123, 1, none⟩ = some (.slice (some ad127) l0_1.length c0_1) ∧ w'.cell? ⟨gb124, 0, none⟩ = some (.string a1_0) ∧ w'.cell? ⟨gb124, 1, none⟩ = some (.slice (some ad128) l1_1.length c1_1) ∧ w'.cell? (ad127.add ((x8_1).toNat * 6)) = some (.int .i64 ((rd_T95 l0_1 x8_1).f0)) ∧ w'.cell? ⟨(ad127.add ((x8_1).toNat * 6)).block, (ad127.add ((x8_1).toNat * 6)).off + 1, none⟩ = some (.int .i64 ((rd_T95 l0_1 x8_1).f1)) ∧ w'.cell? ⟨(ad127.add ((x8_1).toNat * 6)).block, (ad127.add ((x8_1).toNat * 6)).off + 2, none⟩ = some (.int .i64 ((rd_T95 l0_1 x8_1).f2)) ∧ w'.cell? ⟨(ad127.add ((x8_1).toNat * 6)).block, (ad127.add ((x8_1).toNat * 6)).off + 3, none⟩ = some (.int .i64 ((rd_T95 l0_1 x8_1).f3)) ∧ w'.cell? ⟨(ad127.add ((x8_1).toNat * 6)).block, (ad127.add ((x8_1).toNat * 6)).off + 4, none⟩ = some (.int .i64 ((rd_T95 l0_1 x8_1).f4)) ∧ w'.cell? ⟨(ad127.add ((x8_1).toNat * 6)).block, (ad127.add ((x8_1).toNat * 6)).off + 5, none⟩ = some (.int .i64 ((rd_T95 l0_1 x8_1).f5)) ∧ w'.cell? (ad128.add ((x9_2).toNat * 6)) = some (.int .i64 ((rd_T95 l1_1 x9_2).f0)) ∧ w'.cell? ⟨(ad128.add ((x9_2).toNat * 6)).block, (ad128.add ((x9_2).toNat * 6)).off + 1, none⟩ = some (.int .i64 ((rd_T95 l1_1 x9_2).f1)) ∧ w'.cell? ⟨(ad128.add ((x9_2).toNat * 6)).block, (ad128.add ((x9_2).toNat * 6)).off + 2, none⟩ = some (.int .i64 ((rd_T95 l1_1 x9_2).f2)) ∧ w'.cell? ⟨(ad128.add ((x9_2).toNat * 6)).block, (ad128.add ((x9_2).toNat * 6)).off + 3, none⟩ = some (.int .i64 ((rd_T95 l1_1 x9_2).f3)) ∧ w'.cell? ⟨(ad128.add ((x9_2).toNat * 6)).block, (ad128.add ((x9_2).toNat * 6)).off + 4, none⟩ = some (.int .i64 ((rd_T95 l1_1 x9_2).f4)) ∧ w'.cell? ⟨(ad128.add ((x9_2).toNat * 6)).block, (ad128.add ((x9_2).toNat * 6)).off + 5, none⟩ = some (.int .i64 ((rd_T95 l1_1 x9_2).f5))) (ds := []) (bl 16 0) (by kernel_rfl) rfl rfl ⟨(blk_cell BK123.out 0).trans rfl, (blk_cell BK123.out 1).trans rfl, (blk_cell BK124.out 0).trans rfl, (blk_cell BK124.out 1).trans rfl, (hc HB hw127_0), (hc HB hw127_1), (hc HB hw127_2), (hc HB hw127_3), (hc HB hw127_4), (hc HB hw127_5), (hc HB hw128_0), (hc HB hw128_1), (hc HB hw128_2), (hc HB hw128_3), (hc HB hw128_4), (hc HB hw128_5)⟩ (fun hHeld => ?_); refine with_tabW spec_l3Meet.tab9 spec_l3Meet.bits9 (fun HT_ HW_ => ?_)
             generalize wr.drew = w28 at BK123 BK124 BK125 BK126 HB hx127_0 hx127_1 hx127_2 hx127_3 hx127_4 hx127_5 hx128_0 hx128_1 hx128_2 hx128_3 hx128_4 hx128_5 hHeld ⊢
             refine pu 0 28 (bl 16 1) ?_
             refine pu 2 30 (bl 16 5) ?_
             refine pu 5 33 (bl 16 37) ?_
             refine pu 7 35 (bl 16 165) ?_
             refine tk 1 29 (bl 16 167) ?_ hHeld
             refine pu 3 31 (bl 16 175) ?_
             refine tk 4 32 (bl 16 191) ?_ hHeld
             refine tk 6 34 (bl 16 255) ?_ hHeld
             refine pu 8 36 (bl 16 511) ?_
             refine tk 9 37 (bl 16 1023) ?_ hHeld
             refine oe 10 38 (bl 16 2047) (fun K hK => ?_)
             refine gs Try.func79 #[.agg #[.int .i64 ((rd_T95 l0_1 x8_1).f0), .int .i64 ((rd_T95 l0_1 x8_1).f1), .int .i64 ((rd_T95 l0_1 x8_1).f2), .int .i64 ((rd_T95 l0_1 x8_1).f3), .int .i64 ((rd_T95 l0_1 x8_1).f4), .int .i64 ((rd_T95 l0_1 x8_1).f5)], .agg #[.int .i64 ((rd_T95 l1_1 x9_2).f0), .int .i64 ((rd_T95 l1_1 x9_2).f1), .int .i64 ((rd_T95 l1_1 x9_2).f2), .int .i64 ((rd_T95 l1_1 x9_2).f3), .int .i64 ((rd_T95 l1_1 x9_2).f4), .int .i64 ((rd_T95 l1_1 x9_2).f5)]] ?_
             with_reducible refine (spec_l1Close.calls k2 ((rd_T95 l0_1 x8_1).f0) ((rd_T95 l0_1 x8_1).f1) ((rd_T95 l0_1 x8_1).f2) ((rd_T95 l0_1 x8_1).f3) ((rd_T95 l0_1 x8_1).f4) ((rd_T95 l0_1 x8_1).f5) ((rd_T95 l1_1 x9_2).f0) ((rd_T95 l1_1 x9_2).f1) ((rd_T95 l1_1 x9_2).f2) ((rd_T95 l1_1 x9_2).f3) ((rd_T95 l1_1 x9_2).f4) ((rd_T95 l1_1 x9_2).f5) t129 true _ A20.out).mono ?_
             rintro e w29 ⟨rfl, hb⟩
             refine ⟨_, rfl, ?_⟩
             have _ := bb (bk BK123) hb
             have _ := bb (bk BK124) hb
             have _ := bb (bk BK125) hb
             have _ := bb (bk BK126) hb
             have _ := bs hb
             clear BK123 BK124 BK125 BK126 HB
             rename_i BK123 BK124 BK125 BK126 HB
             (try clear hb)
             (try clear hb2)
             (try clear hk)
             (try clear hi)
             refine hK.out _ _ ⟨(blk_cell BK123.out 0).trans rfl, (blk_cell BK123.out 1).trans rfl, (blk_cell BK124.out 0).trans rfl, (blk_cell BK124.out 1).trans rfl, (hc HB hw127_0), (hc HB hw127_1), (hc HB hw127_2), (hc HB hw127_3), (hc HB hw127_4), (hc HB hw127_5), (hc HB hw128_0), (hc HB hw128_1), (hc HB hw128_2), (hc HB hw128_3), (hc HB hw128_4), (hc HB hw128_5)⟩ (fun hHeld => ?_)
             clear hK K
             refine nm 38 ?_
             refine pu 11 27 (bl 16 4095) ?_
             refine pu 12 39 (bl 16 8191) ?_
             refine pu 13 40 (bl 16 16383) ?_
             refine pu 14 10 (bl 16 32767) ?_
             refine pu 15 11 (bl 16 65535) ?_
             refine done_ (done_of HT_.out (by kernel_rfl)) ?_
             have hnb30 := NB126_123.out
             have hnc30 := NB123_126.out
             have hnb31 := NB126_125.out
             have hnc31 := NB125_126.out
             obtain ⟨hcz32_0, hcz32_1, hcz32_2, hcz32_3, hcz32_4, hfz32_0, hfz32_1, hfz32_2, hfz32_3, hfz32_4⟩ := zc5 BK126
             have hnb33 := NB123_125.out
             have hnc33 := NB125_123.out
             obtain ⟨hcz34_0, hcz34_1, hfz34_0, hfz34_1⟩ := zc2 BK123
             obtain ⟨hcz35_0, hcz35_1, hfz35_0, hfz35_1⟩ := zc2 BK124
             try go_wp2
             go_roundg k2
             case measure => have := HK1.out; have := HK2.out; omega
             case rel => exact ⟨(true), (wrap64 (x9_2 + 1)), (a0_0), (a1_0), (t129), (x8_1), (x9_2), rs, rs, H', ⟨by have := HK1.out; have := HK2.out; omega⟩, ⟨bk BK123⟩, ⟨bk BK124⟩, ⟨bk BK125⟩, ⟨bp BK126⟩, ⟨bq⟩⟩
            ·rw [if_neg c23] at H
             have c23b0 : decide (t129 < x127002_2) = false := decide_eq_false c23
             clear c23
             have H' := Aside0.mk H
             clear H
             have hnb36 := NB124_123.out
             have hnc36 := NB123_124.out
             have hnb37 := NB124_125.out
             have hnc37 := NB125_124.out
             have hnb38 := NB124_126.out
             have hnc38 := NB126_124.out
             obtain ⟨hcz39_0, hcz39_1, hfz39_0, hfz39_1⟩ := zc2 BK124
             try go_wp2
             have _ := ra (blk_drew BK123.out)
             have _ := ra (blk_drew BK124.out)
             have _ := ra (blk_drew BK125.out)
             have _ := ra (blk_drew BK126.out)
             have _ := ra (below_drew1 HB.out)
             clear BK123 BK124 BK125 BK126 HB
             rename_i BK123 BK124 BK125 BK126 HB
             have p127 : 0 ≤ (x8_1 : Int) := od
             have q127 : x8_1 < (l0_1.length : Int) := od
             obtain ⟨ad127, e127, hx127_0, hx127_1, hx127_2, hx127_3, hx127_4, hx127_5⟩ := at_T95 HR0_1.out x8_1 p127 q127
             have hw127_5 := hx127_5
             have hw127_4 := hx127_4
             have hw127_3 := hx127_3
             have hw127_2 := hx127_2
             have hw127_1 := hx127_1
             have hw127_0 := hx127_0
             cases e127
             replace hx127_0 := hc HB hx127_0
             replace hx127_1 := hc HB hx127_1
             replace hx127_2 := hc HB hx127_2
             replace hx127_3 := hc HB hx127_3
             replace hx127_4 := hc HB hx127_4
             replace hx127_5 := hc HB hx127_5
             replace p127 := eq_true p127
             replace q127 := eq_true q127
             have p128 : 0 ≤ (x9_2 : Int) := od
             have q128 : x9_2 < (l1_1.length : Int) := od
             obtain ⟨ad128, e128, hx128_0, hx128_1, hx128_2, hx128_3, hx128_4, hx128_5⟩ := at_T95 HR1_1.out x9_2 p128 q128
             have hw128_5 := hx128_5
             have hw128_4 := hx128_4
             have hw128_3 := hx128_3
             have hw128_2 := hx128_2
             have hw128_1 := hx128_1
             have hw128_0 := hx128_0
             cases e128
             replace hx128_0 := hc HB hx128_0
             replace hx128_1 := hc HB hx128_1
             replace hx128_2 := hc HB hx128_2
             replace hx128_3 := hc HB hx128_3
             replace hx128_4 := hc HB hx128_4
             replace hx128_5 := hc HB hx128_5
             replace p128 := eq_true p128
             replace q128 := eq_true q128
             refine start_ (n := 16) (S := fun w' => w'.cell? ⟨gb123, 0, none⟩ = some (.string a0_0) ∧ w'.cell? ⟨gb123, 1, none⟩ = some (.slice (some ad127) l0_1.length c0_1) ∧ w'.cell? ⟨gb124, 0, none⟩ = some (.string a1_0) ∧ w'.cell? ⟨gb124, 1, none⟩ = some (.slice (some ad128) l1_1.length c1_1) ∧ w'.cell? (ad127.add ((x8_1).toNat * 6)) = some (.int .i64 ((rd_T95 l0_1 x8_1).f0)) ∧ w'.cell? ⟨(ad127.add ((x8_1).toNat * 6)).block, (ad127.add ((x8_1).toNat * 6)).off + 1, none⟩ = some (.int .i64 ((rd_T95 l0_1 x8_1).f1)) ∧ w'.cell? ⟨(ad127.add ((x8_1).toNat * 6)).block, (ad127.add ((x8_1).toNat * 6)).off + 2, none⟩ = some (.int .i64 ((rd_T95 l0_1 x8_1).f2)) ∧ w'.cell? ⟨(ad127.add ((x8_1).toNat * 6)).block, (ad127.add ((x8_1).toNat * 6)).off + 3, none⟩ = some (.int .i64 ((rd_T95 l0_1 x8_1).f3)) ∧ w'.cell? ⟨(ad127.add ((x8_1).toNat * 6)).block, (ad127.add ((x8_1).toNat * 6)).off + 4, none⟩ = some (.int .i64 ((rd_T95 l0_1 x8_1).f4)) ∧ w'.cell? ⟨(ad127.add ((x8_1).toNat * 6)).block, (ad127.add ((x8_1).toNat * 6)).off + 5, none⟩ = some (.int .i64 ((rd_T95 l0_1 x8_1).f5)) ∧ w'.cell? (ad128.add ((x9_2).toNat * 6)) = some (.int .i64 ((rd_T95 l1_1 x9_2).f0)) ∧ w'.cell? ⟨(ad128.add ((x9_2).toNat * 6)).block, (ad128.add ((x9_2).toNat * 6)).off + 1, none⟩ = some (.int .i64 ((rd_T95 l1_1 x9_2).f1)) ∧ w'.cell? ⟨(ad128.add ((x9_2).toNat * 6)).block, (ad128.add ((x9_2).toNat * 6)).off + 2, none⟩ = some (.int .i64 ((rd_T95 l1_1 x9_2).f2)) ∧ w'.cell? ⟨(ad128.add ((x9_2).toNat * 6)).block, (ad128.add ((x9_2).toNat * 6)).off + 3, none⟩ = some (.int .i64 ((rd_T95 l1_1 x9_2).f3)) ∧ w'.cell? ⟨(ad128.add ((x9_2).toNat * 6)).block, (ad128.add ((x9_2).toNat * 6)).off + 4, none⟩ = some (.int .i64 ((rd_T95 l1_1 x9_2).f4)) ∧ w'.cell? ⟨(ad128.add ((x9_2).toNat * 6)).block, (ad128.add ((x9_2).toNat * 6)).off + 5, none⟩ = some (.int .i64 ((rd_T95 l1_1 x9_2).f5))) (ds := []) (bl 16 0) (by kernel_rfl) rfl rfl ⟨(blk_cell BK123.out 0).trans rfl, (blk_cell BK123.out 1).trans rfl, (blk_cell BK124.out 0).trans rfl, (blk_cell BK124.out 1).trans rfl, (hc HB hw127_0), (hc HB hw127_1), (hc HB hw127_2), (hc HB hw127_3), (hc HB hw127_4), (hc HB hw127_5), (hc HB hw128_0), (hc HB hw128_1), (hc HB hw128_2), (hc HB hw128_3), (hc HB hw128_4), (hc HB hw128_5)⟩ (fun hHeld => ?_); refine with_tabW spec_l3Meet.tab9 spec_l3Meet.bits9 (fun HT_ HW_ => ?_)
             generalize wr.drew = w40 at BK123 BK124 BK125 BK126 HB hx127_0 hx127_1 hx127_2 hx127_3 hx127_4 hx127_5 hx128_0 hx128_1 hx128_2 hx128_3 hx128_4 hx128_5 hHeld ⊢
             refine pu 0 28 (bl 16 1) ?_
             refine pu 2 30 (bl 16 5) ?_
             refine pu 5 33 (bl 16 37) ?_
             refine pu 7 35 (bl 16 165) ?_
             refine tk 1 29 (bl 16 167) ?_ hHeld
             refine pu 3 31 (bl 16 175) ?_
             refine tk 4 32 (bl 16 191) ?_ hHeld
             refine tk 6 34 (bl 16 255) ?_ hHeld
             refine pu 8 36 (bl 16 511) ?_
             refine tk 9 37 (bl 16 1023) ?_ hHeld
             refine oe 10 38 (bl 16 2047) (fun K hK => ?_)
             refine gs Try.func79 #[.agg #[.int .i64 ((rd_T95 l0_1 x8_1).f0), .int .i64 ((rd_T95 l0_1 x8_1).f1), .int .i64 ((rd_T95 l0_1 x8_1).f2), .int .i64 ((rd_T95 l0_1 x8_1).f3), .int .i64 ((rd_T95 l0_1 x8_1).f4), .int .i64 ((rd_T95 l0_1 x8_1).f5)], .agg #[.int .i64 ((rd_T95 l1_1 x9_2).f0), .int .i64 ((rd_T95 l1_1 x9_2).f1), .int .i64 ((rd_T95 l1_1 x9_2).f2), .int .i64 ((rd_T95 l1_1 x9_2).f3), .int .i64 ((rd_T95 l1_1 x9_2).f4), .int .i64 ((rd_T95 l1_1 x9_2).f5)]] ?_
             with_reducible refine (spec_l1Close.calls k2 ((rd_T95 l0_1 x8_1).f0) ((rd_T95 l0_1 x8_1).f1) ((rd_T95 l0_1 x8_1).f2) ((rd_T95 l0_1 x8_1).f3) ((rd_T95 l0_1 x8_1).f4) ((rd_T95 l0_1 x8_1).f5) ((rd_T95 l1_1 x9_2).f0) ((rd_T95 l1_1 x9_2).f1) ((rd_T95 l1_1 x9_2).f2) ((rd_T95 l1_1 x9_2).f3) ((rd_T95 l1_1 x9_2).f4) ((rd_T95 l1_1 x9_2).f5) t129 true _ A20.out).mono ?_
             rintro e w41 ⟨rfl, hb⟩
             refine ⟨_, rfl, ?_⟩
             have _ := bb (bk BK123) hb
             have _ := bb (bk BK124) hb
             have _ := bb (bk BK125) hb
             have _ := bb (bk BK126) hb
             have _ := bs hb
             clear BK123 BK124 BK125 BK126 HB
             rename_i BK123 BK124 BK125 BK126 HB
             (try clear hb)
             (try clear hb2)
             (try clear hk)
             (try clear hi)
             refine hK.out _ _ ⟨(blk_cell BK123.out 0).trans rfl, (blk_cell BK123.out 1).trans rfl, (blk_cell BK124.out 0).trans rfl, (blk_cell BK124.out 1).trans rfl, (hc HB hw127_0), (hc HB hw127_1), (hc HB hw127_2), (hc HB hw127_3), (hc HB hw127_4), (hc HB hw127_5), (hc HB hw128_0), (hc HB hw128_1), (hc HB hw128_2), (hc HB hw128_3), (hc HB hw128_4), (hc HB hw128_5)⟩ (fun hHeld => ?_)
             clear hK K
             refine nm 38 ?_
             refine pu 11 27 (bl 16 4095) ?_
             refine pu 12 39 (bl 16 8191) ?_
             refine pu 13 40 (bl 16 16383) ?_
             refine pu 14 10 (bl 16 32767) ?_
             refine pu 15 11 (bl 16 65535) ?_
             refine done_ (done_of HT_.out (by kernel_rfl)) ?_
             have hnb42 := NB126_123.out
             have hnc42 := NB123_126.out
             have hnb43 := NB126_125.out
             have hnc43 := NB125_126.out
             obtain ⟨hcz44_0, hcz44_1, hcz44_2, hcz44_3, hcz44_4, hfz44_0, hfz44_1, hfz44_2, hfz44_3, hfz44_4⟩ := zc5 BK126
             try go_wp2
             go_roundg k2
             case measure => have := HK1.out; have := HK2.out; omega
             case rel => exact ⟨(true), (wrap64 (x9_2 + 1)), (x127000_2), (x127001_2), (x127002_2), (x127003_2), (x127004_2), rs, rs, H', ⟨by have := HK1.out; have := HK2.out; omega⟩, ⟨bk BK123⟩, ⟨bk BK124⟩, ⟨bk BK125⟩, ⟨bk BK126⟩, ⟨bq⟩⟩
           ·replace c22 := Bool.eq_false_iff.mpr c22
            subst c22
            have H1 : (spec_l3Meet.l1 k2 true x8_1 (wrap64 (x9_2 + 1)) a0_0 l0_1 a1_0 l1_1 a0_0 a1_0 t129 x8_1 x9_2) = some (r1, r2, r3, r4, r5, r6) := by rw [if_neg (show ¬ (false = true) by decide)] at H; exact H
            clear H
            have H := H1
            clear H1
            have H' := Aside0.mk H
            clear H
            have hnb45 := NB124_123.out
            have hnc45 := NB123_124.out
            have hnb46 := NB124_125.out
            have hnc46 := NB125_124.out
            have hnb47 := NB124_126.out
            have hnc47 := NB126_124.out
            obtain ⟨hcz48_0, hcz48_1, hfz48_0, hfz48_1⟩ := zc2 BK124
            try go_wp2
            have _ := ra (blk_drew BK123.out)
            have _ := ra (blk_drew BK124.out)
            have _ := ra (blk_drew BK125.out)
            have _ := ra (blk_drew BK126.out)
            have _ := ra (below_drew1 HB.out)
            clear BK123 BK124 BK125 BK126 HB
            rename_i BK123 BK124 BK125 BK126 HB
            have p127 : 0 ≤ (x8_1 : Int) := od
            have q127 : x8_1 < (l0_1.length : Int) := od
            obtain ⟨ad127, e127, hx127_0, hx127_1, hx127_2, hx127_3, hx127_4, hx127_5⟩ := at_T95 HR0_1.out x8_1 p127 q127
            have hw127_5 := hx127_5
            have hw127_4 := hx127_4
            have hw127_3 := hx127_3
            have hw127_2 := hx127_2
            have hw127_1 := hx127_1
            have hw127_0 := hx127_0
            cases e127
            replace hx127_0 := hc HB hx127_0
            replace hx127_1 := hc HB hx127_1
            replace hx127_2 := hc HB hx127_2
            replace hx127_3 := hc HB hx127_3
            replace hx127_4 := hc HB hx127_4
            replace hx127_5 := hc HB hx127_5
            replace p127 := eq_true p127
            replace q127 := eq_true q127
            have p128 : 0 ≤ (x9_2 : Int) := od
            have q128 : x9_2 < (l1_1.length : Int) := od
            obtain ⟨ad128, e128, hx128_0, hx128_1, hx128_2, hx128_3, hx128_4, hx128_5⟩ := at_T95 HR1_1.out x9_2 p128 q128
            have hw128_5 := hx128_5
            have hw128_4 := hx128_4
            have hw128_3 := hx128_3
            have hw128_2 := hx128_2
            have hw128_1 := hx128_1
            have hw128_0 := hx128_0
            cases e128
            replace hx128_0 := hc HB hx128_0
            replace hx128_1 := hc HB hx128_1
            replace hx128_2 := hc HB hx128_2
            replace hx128_3 := hc HB hx128_3
            replace hx128_4 := hc HB hx128_4
            replace hx128_5 := hc HB hx128_5
            replace p128 := eq_true p128
            replace q128 := eq_true q128
            refine start_ (n := 16) (S := fun w' => w'.cell? ⟨gb123, 0, none⟩ = some (.string a0_0) ∧ w'.cell? ⟨gb123, 1, none⟩ = some (.slice (some ad127) l0_1.length c0_1) ∧ w'.cell? ⟨gb124, 0, none⟩ = some (.string a1_0) ∧ w'.cell? ⟨gb124, 1, none⟩ = some (.slice (some ad128) l1_1.length c1_1) ∧ w'.cell? (ad127.add ((x8_1).toNat * 6)) = some (.int .i64 ((rd_T95 l0_1 x8_1).f0)) ∧ w'.cell? ⟨(ad127.add ((x8_1).toNat * 6)).block, (ad127.add ((x8_1).toNat * 6)).off + 1, none⟩ = some (.int .i64 ((rd_T95 l0_1 x8_1).f1)) ∧ w'.cell? ⟨(ad127.add ((x8_1).toNat * 6)).block, (ad127.add ((x8_1).toNat * 6)).off + 2, none⟩ = some (.int .i64 ((rd_T95 l0_1 x8_1).f2)) ∧ w'.cell? ⟨(ad127.add ((x8_1).toNat * 6)).block, (ad127.add ((x8_1).toNat * 6)).off + 3, none⟩ = some (.int .i64 ((rd_T95 l0_1 x8_1).f3)) ∧ w'.cell? ⟨(ad127.add ((x8_1).toNat * 6)).block, (ad127.add ((x8_1).toNat * 6)).off + 4, none⟩ = some (.int .i64 ((rd_T95 l0_1 x8_1).f4)) ∧ w'.cell? ⟨(ad127.add ((x8_1).toNat * 6)).block, (ad127.add ((x8_1).toNat * 6)).off + 5, none⟩ = some (.int .i64 ((rd_T95 l0_1 x8_1).f5)) ∧ w'.cell? (ad128.add ((x9_2).toNat * 6)) = some (.int .i64 ((rd_T95 l1_1 x9_2).f0)) ∧ w'.cell? ⟨(ad128.add ((x9_2).toNat * 6)).block, (ad128.add ((x9_2).toNat * 6)).off + 1, none⟩ = some (.int .i64 ((rd_T95 l1_1 x9_2).f1)) ∧ w'.cell? ⟨(ad128.add ((x9_2).toNat * 6)).block, (ad128.add ((x9_2).toNat * 6)).off + 2, none⟩ = some (.int .i64 ((rd_T95 l1_1 x9_2).f2)) ∧ w'.cell? ⟨(ad128.add ((x9_2).toNat * 6)).block, (ad128.add ((x9_2).toNat * 6)).off + 3, none⟩ = some (.int .i64 ((rd_T95 l1_1 x9_2).f3)) ∧ w'.cell? ⟨(ad128.add ((x9_2).toNat * 6)).block, (ad128.add ((x9_2).toNat * 6)).off + 4, none⟩ = some (.int .i64 ((rd_T95 l1_1 x9_2).f4)) ∧ w'.cell? ⟨(ad128.add ((x9_2).toNat * 6)).block, (ad128.add ((x9_2).toNat * 6)).off + 5, none⟩ = some (.int .i64 ((rd_T95 l1_1 x9_2).f5))) (ds := []) (bl 16 0) (by kernel_rfl) rfl rfl ⟨(blk_cell BK123.out 0).trans rfl, (blk_cell BK123.out 1).trans rfl, (blk_cell BK124.out 0).trans rfl, (blk_cell BK124.out 1).trans rfl, (hc HB hw127_0), (hc HB hw127_1), (hc HB hw127_2), (hc HB hw127_3), (hc HB hw127_4), (hc HB hw127_5), (hc HB hw128_0), (hc HB hw128_1), (hc HB hw128_2), (hc HB hw128_3), (hc HB hw128_4), (hc HB hw128_5)⟩ (fun hHeld => ?_); refine with_tabW spec_l3Meet.tab9 spec_l3Meet.bits9 (fun HT_ HW_ => ?_)
            generalize wr.drew = w49 at BK123 BK124 BK125 BK126 HB hx127_0 hx127_1 hx127_2 hx127_3 hx127_4 hx127_5 hx128_0 hx128_1 hx128_2 hx128_3 hx128_4 hx128_5 hHeld ⊢
            refine pu 0 28 (bl 16 1) ?_
            refine pu 2 30 (bl 16 5) ?_
            refine pu 5 33 (bl 16 37) ?_
            refine pu 7 35 (bl 16 165) ?_
            refine tk 1 29 (bl 16 167) ?_ hHeld
            refine pu 3 31 (bl 16 175) ?_
            refine tk 4 32 (bl 16 191) ?_ hHeld
            refine tk 6 34 (bl 16 255) ?_ hHeld
            refine pu 8 36 (bl 16 511) ?_
            refine tk 9 37 (bl 16 1023) ?_ hHeld
            refine oe 10 38 (bl 16 2047) (fun K hK => ?_)
            refine gs Try.func79 #[.agg #[.int .i64 ((rd_T95 l0_1 x8_1).f0), .int .i64 ((rd_T95 l0_1 x8_1).f1), .int .i64 ((rd_T95 l0_1 x8_1).f2), .int .i64 ((rd_T95 l0_1 x8_1).f3), .int .i64 ((rd_T95 l0_1 x8_1).f4), .int .i64 ((rd_T95 l0_1 x8_1).f5)], .agg #[.int .i64 ((rd_T95 l1_1 x9_2).f0), .int .i64 ((rd_T95 l1_1 x9_2).f1), .int .i64 ((rd_T95 l1_1 x9_2).f2), .int .i64 ((rd_T95 l1_1 x9_2).f3), .int .i64 ((rd_T95 l1_1 x9_2).f4), .int .i64 ((rd_T95 l1_1 x9_2).f5)]] ?_
            with_reducible refine (spec_l1Close.calls k2 ((rd_T95 l0_1 x8_1).f0) ((rd_T95 l0_1 x8_1).f1) ((rd_T95 l0_1 x8_1).f2) ((rd_T95 l0_1 x8_1).f3) ((rd_T95 l0_1 x8_1).f4) ((rd_T95 l0_1 x8_1).f5) ((rd_T95 l1_1 x9_2).f0) ((rd_T95 l1_1 x9_2).f1) ((rd_T95 l1_1 x9_2).f2) ((rd_T95 l1_1 x9_2).f3) ((rd_T95 l1_1 x9_2).f4) ((rd_T95 l1_1 x9_2).f5) t129 true _ A20.out).mono ?_
            rintro e w50 ⟨rfl, hb⟩
            refine ⟨_, rfl, ?_⟩
            have _ := bb (bk BK123) hb
            have _ := bb (bk BK124) hb
            have _ := bb (bk BK125) hb
            have _ := bb (bk BK126) hb
            have _ := bs hb
            clear BK123 BK124 BK125 BK126 HB
            rename_i BK123 BK124 BK125 BK126 HB
            (try clear hb)
            (try clear hb2)
            (try clear hk)
            (try clear hi)
            refine hK.out _ _ ⟨(blk_cell BK123.out 0).trans rfl, (blk_cell BK123.out 1).trans rfl, (blk_cell BK124.out 0).trans rfl, (blk_cell BK124.out 1).trans rfl, (hc HB hw127_0), (hc HB hw127_1), (hc HB hw127_2), (hc HB hw127_3), (hc HB hw127_4), (hc HB hw127_5), (hc HB hw128_0), (hc HB hw128_1), (hc HB hw128_2), (hc HB hw128_3), (hc HB hw128_4), (hc HB hw128_5)⟩ (fun hHeld => ?_)
            clear hK K
            refine nm 38 ?_
            refine pu 11 27 (bl 16 4095) ?_
            refine pu 12 39 (bl 16 8191) ?_
            refine pu 13 40 (bl 16 16383) ?_
            refine pu 14 10 (bl 16 32767) ?_
            refine pu 15 11 (bl 16 65535) ?_
            refine done_ (done_of HT_.out (by kernel_rfl)) ?_
            have hnb51 := NB123_125.out
            have hnc51 := NB125_123.out
            have hnb52 := NB123_126.out
            have hnc52 := NB126_123.out
            obtain ⟨hcz53_0, hcz53_1, hfz53_0, hfz53_1⟩ := zc2 BK123
            obtain ⟨hcz54_0, hcz54_1, hfz54_0, hfz54_1⟩ := zc2 BK124
            have hnb55 := NB126_125.out
            have hnc55 := NB125_126.out
            obtain ⟨hcz56_0, hcz56_1, hcz56_2, hcz56_3, hcz56_4, hfz56_0, hfz56_1, hfz56_2, hfz56_3, hfz56_4⟩ := zc5 BK126
            try go_wp2
            go_roundg k2
            case measure => have := HK1.out; have := HK2.out; omega
            case rel => exact ⟨(true), (wrap64 (x9_2 + 1)), (a0_0), (a1_0), (t129), (x8_1), (x9_2), rs, rs, H', ⟨by have := HK1.out; have := HK2.out; omega⟩, ⟨bk BK123⟩, ⟨bk BK124⟩, ⟨bk BK125⟩, ⟨bp BK126⟩, ⟨bq⟩⟩
          ·replace c21 := Bool.eq_false_iff.mpr c21
           subst c21
           have H1 : (spec_l3Meet.l1 k2 x7_2 x8_1 (wrap64 (x9_2 + 1)) a0_0 l0_1 a1_0 l1_1 x127000_2 x127001_2 x127002_2 x127003_2 x127004_2) = some (r1, r2, r3, r4, r5, r6) := by rw [if_neg (show ¬ (false = true) by decide)] at H; exact H
           clear H
           have H := H1
           clear H1
           have H' := Aside0.mk H
           clear H
           have hnb57 := NB124_123.out
           have hnc57 := NB123_124.out
           have hnb58 := NB124_125.out
           have hnc58 := NB125_124.out
           have hnb59 := NB124_126.out
           have hnc59 := NB126_124.out
           obtain ⟨hcz60_0, hcz60_1, hfz60_0, hfz60_1⟩ := zc2 BK124
           try go_wp2
           have _ := ra (blk_drew BK123.out)
           have _ := ra (blk_drew BK124.out)
           have _ := ra (blk_drew BK125.out)
           have _ := ra (blk_drew BK126.out)
           have _ := ra (below_drew1 HB.out)
           clear BK123 BK124 BK125 BK126 HB
           rename_i BK123 BK124 BK125 BK126 HB
           have p127 : 0 ≤ (x8_1 : Int) := od
           have q127 : x8_1 < (l0_1.length : Int) := od
           obtain ⟨ad127, e127, hx127_0, hx127_1, hx127_2, hx127_3, hx127_4, hx127_5⟩ := at_T95 HR0_1.out x8_1 p127 q127
           have hw127_5 := hx127_5
           have hw127_4 := hx127_4
           have hw127_3 := hx127_3
           have hw127_2 := hx127_2
           have hw127_1 := hx127_1
           have hw127_0 := hx127_0
           cases e127
           replace hx127_0 := hc HB hx127_0
           replace hx127_1 := hc HB hx127_1
           replace hx127_2 := hc HB hx127_2
           replace hx127_3 := hc HB hx127_3
           replace hx127_4 := hc HB hx127_4
           replace hx127_5 := hc HB hx127_5
           replace p127 := eq_true p127
           replace q127 := eq_true q127
           have p128 : 0 ≤ (x9_2 : Int) := od
           have q128 : x9_2 < (l1_1.length : Int) := od
           obtain ⟨ad128, e128, hx128_0, hx128_1, hx128_2, hx128_3, hx128_4, hx128_5⟩ := at_T95 HR1_1.out x9_2 p128 q128
           have hw128_5 := hx128_5
           have hw128_4 := hx128_4
           have hw128_3 := hx128_3
           have hw128_2 := hx128_2
           have hw128_1 := hx128_1
           have hw128_0 := hx128_0
           cases e128
           replace hx128_0 := hc HB hx128_0
           replace hx128_1 := hc HB hx128_1
           replace hx128_2 := hc HB hx128_2
           replace hx128_3 := hc HB hx128_3
           replace hx128_4 := hc HB hx128_4
           replace hx128_5 := hc HB hx128_5
           replace p128 := eq_true p128
           replace q128 := eq_true q128
           refine start_ (n := 16) (S := fun w' => w'.cell? ⟨gb123, 0, none⟩ = some (.string a0_0) ∧ w'.cell? ⟨gb123, 1, none⟩ = some (.slice (some ad127) l0_1.length c0_1) ∧ w'.cell? ⟨gb124, 0, none⟩ = some (.string a1_0) ∧ w'.cell? ⟨gb124, 1, none⟩ = some (.slice (some ad128) l1_1.length c1_1) ∧ w'.cell? (ad127.add ((x8_1).toNat * 6)) = some (.int .i64 ((rd_T95 l0_1 x8_1).f0)) ∧ w'.cell? ⟨(ad127.add ((x8_1).toNat * 6)).block, (ad127.add ((x8_1).toNat * 6)).off + 1, none⟩ = some (.int .i64 ((rd_T95 l0_1 x8_1).f1)) ∧ w'.cell? ⟨(ad127.add ((x8_1).toNat * 6)).block, (ad127.add ((x8_1).toNat * 6)).off + 2, none⟩ = some (.int .i64 ((rd_T95 l0_1 x8_1).f2)) ∧ w'.cell? ⟨(ad127.add ((x8_1).toNat * 6)).block, (ad127.add ((x8_1).toNat * 6)).off + 3, none⟩ = some (.int .i64 ((rd_T95 l0_1 x8_1).f3)) ∧ w'.cell? ⟨(ad127.add ((x8_1).toNat * 6)).block, (ad127.add ((x8_1).toNat * 6)).off + 4, none⟩ = some (.int .i64 ((rd_T95 l0_1 x8_1).f4)) ∧ w'.cell? ⟨(ad127.add ((x8_1).toNat * 6)).block, (ad127.add ((x8_1).toNat * 6)).off + 5, none⟩ = some (.int .i64 ((rd_T95 l0_1 x8_1).f5)) ∧ w'.cell? (ad128.add ((x9_2).toNat * 6)) = some (.int .i64 ((rd_T95 l1_1 x9_2).f0)) ∧ w'.cell? ⟨(ad128.add ((x9_2).toNat * 6)).block, (ad128.add ((x9_2).toNat * 6)).off + 1, none⟩ = some (.int .i64 ((rd_T95 l1_1 x9_2).f1)) ∧ w'.cell? ⟨(ad128.add ((x9_2).toNat * 6)).block, (ad128.add ((x9_2).toNat * 6)).off + 2, none⟩ = some (.int .i64 ((rd_T95 l1_1 x9_2).f2)) ∧ w'.cell? ⟨(ad128.add ((x9_2).toNat * 6)).block, (ad128.add ((x9_2).toNat * 6)).off + 3, none⟩ = some (.int .i64 ((rd_T95 l1_1 x9_2).f3)) ∧ w'.cell? ⟨(ad128.add ((x9_2).toNat * 6)).block, (ad128.add ((x9_2).toNat * 6)).off + 4, none⟩ = some (.int .i64 ((rd_T95 l1_1 x9_2).f4)) ∧ w'.cell? ⟨(ad128.add ((x9_2).toNat * 6)).block, (ad128.add ((x9_2).toNat * 6)).off + 5, none⟩ = some (.int .i64 ((rd_T95 l1_1 x9_2).f5))) (ds := []) (bl 16 0) (by kernel_rfl) rfl rfl ⟨(blk_cell BK123.out 0).trans rfl, (blk_cell BK123.out 1).trans rfl, (blk_cell BK124.out 0).trans rfl, (blk_cell BK124.out 1).trans rfl, (hc HB hw127_0), (hc HB hw127_1), (hc HB hw127_2), (hc HB hw127_3), (hc HB hw127_4), (hc HB hw127_5), (hc HB hw128_0), (hc HB hw128_1), (hc HB hw128_2), (hc HB hw128_3), (hc HB hw128_4), (hc HB hw128_5)⟩ (fun hHeld => ?_); refine with_tabW spec_l3Meet.tab9 spec_l3Meet.bits9 (fun HT_ HW_ => ?_)
           generalize wr.drew = w61 at BK123 BK124 BK125 BK126 HB hx127_0 hx127_1 hx127_2 hx127_3 hx127_4 hx127_5 hx128_0 hx128_1 hx128_2 hx128_3 hx128_4 hx128_5 hHeld ⊢
           refine pu 0 28 (bl 16 1) ?_
           refine pu 2 30 (bl 16 5) ?_
           refine pu 5 33 (bl 16 37) ?_
           refine pu 7 35 (bl 16 165) ?_
           refine tk 1 29 (bl 16 167) ?_ hHeld
           refine pu 3 31 (bl 16 175) ?_
           refine tk 4 32 (bl 16 191) ?_ hHeld
           refine tk 6 34 (bl 16 255) ?_ hHeld
           refine pu 8 36 (bl 16 511) ?_
           refine tk 9 37 (bl 16 1023) ?_ hHeld
           refine oe 10 38 (bl 16 2047) (fun K hK => ?_)
           refine gs Try.func79 #[.agg #[.int .i64 ((rd_T95 l0_1 x8_1).f0), .int .i64 ((rd_T95 l0_1 x8_1).f1), .int .i64 ((rd_T95 l0_1 x8_1).f2), .int .i64 ((rd_T95 l0_1 x8_1).f3), .int .i64 ((rd_T95 l0_1 x8_1).f4), .int .i64 ((rd_T95 l0_1 x8_1).f5)], .agg #[.int .i64 ((rd_T95 l1_1 x9_2).f0), .int .i64 ((rd_T95 l1_1 x9_2).f1), .int .i64 ((rd_T95 l1_1 x9_2).f2), .int .i64 ((rd_T95 l1_1 x9_2).f3), .int .i64 ((rd_T95 l1_1 x9_2).f4), .int .i64 ((rd_T95 l1_1 x9_2).f5)]] ?_
           with_reducible refine (spec_l1Close.calls k2 ((rd_T95 l0_1 x8_1).f0) ((rd_T95 l0_1 x8_1).f1) ((rd_T95 l0_1 x8_1).f2) ((rd_T95 l0_1 x8_1).f3) ((rd_T95 l0_1 x8_1).f4) ((rd_T95 l0_1 x8_1).f5) ((rd_T95 l1_1 x9_2).f0) ((rd_T95 l1_1 x9_2).f1) ((rd_T95 l1_1 x9_2).f2) ((rd_T95 l1_1 x9_2).f3) ((rd_T95 l1_1 x9_2).f4) ((rd_T95 l1_1 x9_2).f5) t129 false _ A20.out).mono ?_
           rintro e w62 ⟨rfl, hb⟩
           refine ⟨_, rfl, ?_⟩
           have _ := bb (bk BK123) hb
           have _ := bb (bk BK124) hb
           have _ := bb (bk BK125) hb
           have _ := bb (bk BK126) hb
           have _ := bs hb
           clear BK123 BK124 BK125 BK126 HB
           rename_i BK123 BK124 BK125 BK126 HB
           (try clear hb)
           (try clear hb2)
           (try clear hk)
           (try clear hi)
           refine hK.out _ _ ⟨(blk_cell BK123.out 0).trans rfl, (blk_cell BK123.out 1).trans rfl, (blk_cell BK124.out 0).trans rfl, (blk_cell BK124.out 1).trans rfl, (hc HB hw127_0), (hc HB hw127_1), (hc HB hw127_2), (hc HB hw127_3), (hc HB hw127_4), (hc HB hw127_5), (hc HB hw128_0), (hc HB hw128_1), (hc HB hw128_2), (hc HB hw128_3), (hc HB hw128_4), (hc HB hw128_5)⟩ (fun hHeld => ?_)
           clear hK K
           refine nm 38 ?_
           refine pu 11 27 (bl 16 4095) ?_
           refine pu 12 39 (bl 16 8191) ?_
           refine pu 13 40 (bl 16 16383) ?_
           refine pu 14 10 (bl 16 32767) ?_
           refine pu 15 11 (bl 16 65535) ?_
           refine done_ (done_of HT_.out (by kernel_rfl)) ?_
           try go_wp2
           go_roundg k2
           case measure => have := HK1.out; have := HK2.out; omega
           case rel => exact ⟨(x7_2), (wrap64 (x9_2 + 1)), (x127000_2), (x127001_2), (x127002_2), (x127003_2), (x127004_2), rs, rs, H', ⟨by have := HK1.out; have := HK2.out; omega⟩, ⟨bk BK123⟩, ⟨bk BK124⟩, ⟨bk BK125⟩, ⟨bk BK126⟩, ⟨bq⟩⟩
         ·rw [if_neg c19] at H
          exact absurd H (by simp)
        ·rw [if_neg c18] at H
         exact absurd H (by simp)
       ·rw [if_neg c17] at H
        exact absurd H (by simp)
      ·rw [if_neg c16] at H
       have c16b0 : decide (x9_2 < (l1_1.length : Int)) = false := decide_eq_false c16
       clear c16
       have H' := Aside0.mk H
       clear H
       have hnb63 := NB124_123.out
       have hnc63 := NB123_124.out
       have hnb64 := NB124_125.out
       have hnc64 := NB125_124.out
       have hnb65 := NB124_126.out
       have hnc65 := NB126_124.out
       obtain ⟨hcz66_0, hcz66_1, hfz66_0, hfz66_1⟩ := zc2 BK124
       go_wp2
       go_roundg k2
       case measure => have := HK1.out; have := HK2.out; omega
       case rel => exact ⟨(x7_2), (wrap64 (x8_1 + 1)), (x127000_2), (x127001_2), (x127002_2), (x127003_2), (x127004_2), rs, rs, H', ⟨by have := HK1.out; have := HK2.out; omega⟩, ⟨bk BK123⟩, ⟨bk BK124⟩, ⟨bk BK125⟩, ⟨bk BK126⟩, ⟨bq⟩⟩
   ·rw [if_neg c11] at H
    have c11b0 : decide (x8_1 < (l0_1.length : Int)) = false := decide_eq_false c11
    clear c11
    simp only [Option.some.injEq, Prod.mk.injEq] at H
    obtain ⟨rfl, rfl, rfl, rfl, rfl, rfl⟩ := H
    have hnb67 := NB123_124.out
    have hnc67 := NB124_123.out
    have hnb68 := NB123_125.out
    have hnc68 := NB125_123.out
    have hnb69 := NB123_126.out
    have hnc69 := NB126_123.out
    obtain ⟨hcz70_0, hcz70_1, hfz70_0, hfz70_1⟩ := zc2 BK123
    have hnb71 := NB126_124.out
    have hnc71 := NB124_126.out
    have hnb72 := NB126_125.out
    have hnc72 := NB125_126.out
    obtain ⟨hcz73_0, hcz73_1, hcz73_2, hcz73_3, hcz73_4, hfz73_0, hfz73_1, hfz73_2, hfz73_3, hfz73_4⟩ := zc5 BK126
    have hnb74 := NB125_124.out
    have hnc74 := NB124_125.out
    obtain ⟨hcz75_0, hcz75_1, hcz75_2, hcz75_3, hcz75_4, hfz75_0, hfz75_1, hfz75_2, hfz75_3, hfz75_4⟩ := zc5 BK125
    go_wp2
    refine bodyPost_ret (results_ct rfl _ _ gb125 49 #[.string x127000_1, .string x127001_1, .int .i64 x127002_1, .int .i64 x127003_1, .int .i64 x127004_1] (0, 0) _ rfl (bp BK125) Try.underlying49 rfl (by kernel_rfl)) rfl ?_
    exact ⟨re, bq⟩
end Go.Proofs.Ytdbomnhdpniigaa.PA
