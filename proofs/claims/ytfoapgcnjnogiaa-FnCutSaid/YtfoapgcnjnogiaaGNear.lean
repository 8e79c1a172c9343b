/- Contracts of the functions laws_wAbs, laws_wNear, laws_wNearAt, laws_wEver. (Began as a print of the kit's tool.) -/
import Derived.Test.YtfoapgcnjnogiaaPAd
import Derived.Test.YtfoapgcnjnogiaaCx
namespace Go.Proofs.Ytfoapgcnjnogiaa.PA
open Go.RowKit Go.Proofs.YtfoapgcnjnogiaaW.PrintWords Go.Proofs.YtfoapgcnjnogiaaW.PrintLast Go.Proofs.YtfoapgcnjnogiaaW.PrintMore Go.Proofs.Ytfoapgcnjnogiaa.Z
attribute [local go_sem] max2_int min2_int max_two min_two max_three min_three max_four min_four
set_option linter.unusedVariables false
set_option linter.unusedSimpArgs false
attribute [local go_sem high] eqA26
set_option maxHeartbeats 8000000 in
set_option maxRecDepth 100000 in
theorem laws_wAbs.calls (a0 : Int) (r : Int) (w : World) (h : laws_wAbs.f a0 = some r) :
  Calls Try.prog 66 #[.int .i64 a0] w fun e w' => e = .returned (.int .i64 r) ∧ Drawn0 w w' := by
 have H : (if a0 < 0 then (some (wrap64 (-a0))) else (some a0)) = some r := h
 clear h
 by_cases c2 : a0 < 0
 ·rw [if_pos c2] at H
  have c2b0 : decide (a0 < 0) = true := decide_eq_true c2
  clear c2
  obtain rfl := Option.some.inj H
  go_enter Try.func66, Try.ntmps66
  go_wp2
  go_ret
  exact ⟨by first | rfl | (simp; done) | (simp [*]; done), by repeat (first | exact Drawn0.refl _ | apply Drawn0.step)⟩
 ·rw [if_neg c2] at H
  have c2b0 : decide (a0 < 0) = false := decide_eq_false c2
  clear c2
  obtain rfl := Option.some.inj H
  go_enter Try.func66, Try.ntmps66
  go_wp2
  go_ret
  exact ⟨by first | rfl | (simp; done) | (simp [*]; done), by repeat (first | exact Drawn0.refl _ | apply Drawn0.step)⟩
set_option maxHeartbeats 8000000 in
set_option maxRecDepth 100000 in
theorem laws_wNear.calls (k : Nat) (a0_0 : Int) (a0_1 : Int) (a0_2 : Int) (a0_3 : Int) (a0_4 : Int) (a0_5 : Int) (a1_0 : Int) (a1_1 : Int) (a1_2 : Int) (a1_3 : Int) (a1_4 : Int) (a1_5 : Int) (a2 : Int) (r : Bool) (w : World) (h : laws_wNear.f k a0_0 a0_1 a0_2 a0_3 a0_4 a0_5 a1_0 a1_1 a1_2 a1_3 a1_4 a1_5 a2 = some r) :
  Calls Try.prog 46 #[.agg #[.int .i64 a0_0, .int .i64 a0_1, .int .i64 a0_2, .int .i64 a0_3, .int .i64 a0_4, .int .i64 a0_5], .agg #[.int .i64 a1_0, .int .i64 a1_1, .int .i64 a1_2, .int .i64 a1_3, .int .i64 a1_4, .int .i64 a1_5], .int .i64 a2] w fun e w' => e = .returned (.bool r) ∧ Below w.heap.size w w' := by
 have hu26 := Try.underlying26
 have HB := ra (Below.refl w.heap.size w)
 have H : (if a2 < a0_4 then (laws_wNear.j0 k true a0_0 a0_1 a0_2 a0_3 a0_4 a0_5 a1_0 a1_1 a1_2 a1_3 a1_4 a1_5) else (if a2 > a0_5 then (laws_wNear.j0 k true a0_0 a0_1 a0_2 a0_3 a0_4 a0_5 a1_0 a1_1 a1_2 a1_3 a1_4 a1_5) else (if a2 < a1_4 then (laws_wNear.j0 k true a0_0 a0_1 a0_2 a0_3 a0_4 a0_5 a1_0 a1_1 a1_2 a1_3 a1_4 a1_5) else (if a2 > a1_5 then (laws_wNear.j0 k true a0_0 a0_1 a0_2 a0_3 a0_4 a0_5 a1_0 a1_1 a1_2 a1_3 a1_4 a1_5) else ((laws_wAbs.f (wrap64 (a0_0 - a1_0))).bind fun t764 => (if t764 ≥ 2 then (laws_wNear.j0 k true a0_0 a0_1 a0_2 a0_3 a0_4 a0_5 a1_0 a1_1 a1_2 a1_3 a1_4 a1_5) else ((laws_wAbs.f (wrap64 (a0_1 - a1_1))).bind fun t765 => (laws_wNear.j0 k (decide (t765 ≥ 2)) a0_0 a0_1 a0_2 a0_3 a0_4 a0_5 a1_0 a1_1 a1_2 a1_3 a1_4 a1_5)))))))) = some r := h
 clear h
 have HC4 := Aside0.mk H
 clear H
 go_enter Try.func46, Try.ntmps46
 go_upto_region 1 with (first | ((with_reducible refine gate_dst (N := 3) rfl ?_); refine be 3 #[.int .i64 a0_0, .int .i64 a0_1, .int .i64 a0_2, .int .i64 a0_3, .int .i64 a0_4, .int .i64 a0_5] 26 ?_; intro gb762 hg w5 hbox hb; have _ := bs hb; have _ := ra (hbox); have _ := bz (w0 := w) hg; have _ := bz (w0 := w) hg; clear HB; rename_i HB BK762 GW762 GE762; clear hb hbox hg) | ((with_reducible refine gate_dst (N := 4) rfl ?_); refine be 4 #[.int .i64 a1_0, .int .i64 a1_1, .int .i64 a1_2, .int .i64 a1_3, .int .i64 a1_4, .int .i64 a1_5] 26 ?_; intro gb763 hg w6 hbox hb; have _ := bb (bk BK762) hb; have _ := bs hb; have _ := ra (hbox); have _ := bz (w0 := w) hg; have _ := bz (w0 := w) hg; have _ := bn hg (bk BK762); have _ := bm hg (bk BK762); clear BK762 HB; rename_i BK762 HB BK763 GW763 GE763 NB762_763 NB763_762; clear hb hbox hg))
 (try simp only [Act.put, List.setIfInBounds_toArray, List.set_cons_zero, List.set_cons_succ])
 go_cut [47] (fun v47 wc => ∃ (kq : Nat) (x47_3 : Bool), v47 = .bool x47_3 ∧ Aside0 (laws_wNear.j0 kq x47_3 a0_0 a0_1 a0_2 a0_3 a0_4 a0_5 a1_0 a1_1 a1_2 a1_3 a1_4 a1_5 = some r) ∧ Aside0 (kq ≤ k) ∧ Aside0 (wc.heap[gb762]? = some (.cells #[.int .i64 a0_0, .int .i64 a0_1, .int .i64 a0_2, .int .i64 a0_3, .int .i64 a0_4, .int .i64 a0_5] 26 (0, 0))) ∧ Aside0 (wc.heap[gb763]? = some (.cells #[.int .i64 a1_0, .int .i64 a1_1, .int .i64 a1_2, .int .i64 a1_3, .int .i64 a1_4, .int .i64 a1_5] 26 (0, 0))) ∧ Aside0 (Below w.heap.size w wc))
 case first =>
  have H := HC4.out
  clear HC4
  by_cases c7 : a2 < a0_4
  ·rw [if_pos c7] at H
   have c7b0 : decide (a2 < a0_4) = true := decide_eq_true c7
   clear c7
   (first | rw [c7b0] | (simp only [i64_w, i32_w]; rw [c7b0]) | skip)
   have H' := Aside0.mk H
   clear H
   have hnb8 := NB762_763.out
   have hnc8 := NB763_762.out
   obtain ⟨hcz9_0, hcz9_1, hcz9_2, hcz9_3, hcz9_4, hcz9_5, hfz9_0, hfz9_1, hfz9_2, hfz9_3, hfz9_4, hfz9_5⟩ := zc6 BK762
   go_wp2
   go_meet
   case rel => exact ⟨_, (true), rs, H', ⟨by first | omega | exact Nat.le_refl _⟩, ⟨bk BK762⟩, ⟨bk BK763⟩, ⟨bq⟩⟩
  ·rw [if_neg c7] at H
   have c7b0 : decide (a2 < a0_4) = false := decide_eq_false c7
   clear c7
   (first | rw [c7b0] | (simp only [i64_w, i32_w]; rw [c7b0]) | skip)
   by_cases c10 : a2 > a0_5
   ·rw [if_pos c10] at H
    have c10b0 : decide (a0_5 < a2) = true := decide_eq_true c10
    clear c10
    have H' := Aside0.mk H
    clear H
    have hnb11 := NB762_763.out
    have hnc11 := NB763_762.out
    obtain ⟨hcz12_0, hcz12_1, hcz12_2, hcz12_3, hcz12_4, hcz12_5, hfz12_0, hfz12_1, hfz12_2, hfz12_3, hfz12_4, hfz12_5⟩ := zc6 BK762
    go_wp2
    go_meet
    case rel => exact ⟨_, (true), rs, H', ⟨by first | omega | exact Nat.le_refl _⟩, ⟨bk BK762⟩, ⟨bk BK763⟩, ⟨bq⟩⟩
   ·rw [if_neg c10] at H
    have c10b0 : decide (a0_5 < a2) = false := decide_eq_false c10
    clear c10
    by_cases c13 : a2 < a1_4
    ·rw [if_pos c13] at H
     have c13b0 : decide (a2 < a1_4) = true := decide_eq_true c13
     clear c13
     have H' := Aside0.mk H
     clear H
     have hnb14 := NB762_763.out
     have hnc14 := NB763_762.out
     obtain ⟨hcz15_0, hcz15_1, hcz15_2, hcz15_3, hcz15_4, hcz15_5, hfz15_0, hfz15_1, hfz15_2, hfz15_3, hfz15_4, hfz15_5⟩ := zc6 BK762
     obtain ⟨hcz16_0, hcz16_1, hcz16_2, hcz16_3, hcz16_4, hcz16_5, hfz16_0, hfz16_1, hfz16_2, hfz16_3, hfz16_4, hfz16_5⟩ := zc6 BK763
     go_wp2
     go_meet
     case rel => exact ⟨_, (true), rs, H', ⟨by first | omega | exact Nat.le_refl _⟩, ⟨bk BK762⟩, ⟨bk BK763⟩, ⟨bq⟩⟩
    ·rw [if_neg c13] at H
     have c13b0 : decide (a2 < a1_4) = false := decide_eq_false c13
     clear c13
     by_cases c17 : a2 > a1_5
     ·rw [if_pos c17] at H
      have c17b0 : decide (a1_5 < a2) = true := decide_eq_true c17
      clear c17
      have H' := Aside0.mk H
      clear H
      have hnb18 := NB762_763.out
      have hnc18 := NB763_762.out
      obtain ⟨hcz19_0, hcz19_1, hcz19_2, hcz19_3, hcz19_4, hcz19_5, hfz19_0, hfz19_1, hfz19_2, hfz19_3, hfz19_4, hfz19_5⟩ := zc6 BK762
      obtain ⟨hcz20_0, hcz20_1, hcz20_2, hcz20_3, hcz20_4, hcz20_5, hfz20_0, hfz20_1, hfz20_2, hfz20_3, hfz20_4, hfz20_5⟩ := zc6 BK763
      go_wp2
      go_meet
      case rel => exact ⟨_, (true), rs, H', ⟨by first | omega | exact Nat.le_refl _⟩, ⟨bk BK762⟩, ⟨bk BK763⟩, ⟨bq⟩⟩
     ·rw [if_neg c17] at H
      have c17b0 : decide (a1_5 < a2) = false := decide_eq_false c17
      clear c17
      obtain ⟨t764, A21, H⟩ := bo H
      by_cases c22 : t764 ≥ 2
      ·rw [if_pos c22] at H
       have c22b0 : decide (2 ≤ t764) = true := decide_eq_true c22
       clear c22
       have H' := Aside0.mk H
       clear H
       have hnb23 := NB762_763.out
       have hnc23 := NB763_762.out
       obtain ⟨hcz24_0, hcz24_1, hcz24_2, hcz24_3, hcz24_4, hcz24_5, hfz24_0, hfz24_1, hfz24_2, hfz24_3, hfz24_4, hfz24_5⟩ := zc6 BK762
       obtain ⟨hcz25_0, hcz25_1, hcz25_2, hcz25_3, hcz25_4, hcz25_5, hfz25_0, hfz25_1, hfz25_2, hfz25_3, hfz25_4, hfz25_5⟩ := zc6 BK763
       go_wp2_with (first | (go_at_call 66; (with_reducible refine (laws_wAbs.calls (wrap64 (a0_0 - a1_0)) t764 _ A21.out).mono ?_); rintro e w' ⟨rfl, ⟨nd, rfl⟩⟩))
       go_meet
       case rel => exact ⟨_, (true), rs, H', ⟨by first | omega | exact Nat.le_refl _⟩, ⟨bk BK762⟩, ⟨bk BK763⟩, ⟨bq⟩⟩
      ·rw [if_neg c22] at H
       have c22b0 : decide (2 ≤ t764) = false := decide_eq_false c22
       clear c22
       obtain ⟨t765, A26, H⟩ := bo H
       have H' := Aside0.mk H
       clear H
       have hnb27 := NB762_763.out
       have hnc27 := NB763_762.out
       obtain ⟨hcz28_0, hcz28_1, hcz28_2, hcz28_3, hcz28_4, hcz28_5, hfz28_0, hfz28_1, hfz28_2, hfz28_3, hfz28_4, hfz28_5⟩ := zc6 BK762
       obtain ⟨hcz29_0, hcz29_1, hcz29_2, hcz29_3, hcz29_4, hcz29_5, hfz29_0, hfz29_1, hfz29_2, hfz29_3, hfz29_4, hfz29_5⟩ := zc6 BK763
       go_wp2_with (first | (go_at_call 66; (with_reducible refine (laws_wAbs.calls (wrap64 (a0_0 - a1_0)) t764 _ A21.out).mono ?_); rintro e w' ⟨rfl, ⟨nd, rfl⟩⟩) | (go_at_call 66; (with_reducible refine (laws_wAbs.calls (wrap64 (a0_1 - a1_1)) t765 _ A26.out).mono ?_); rintro e w' ⟨rfl, ⟨nd, rfl⟩⟩))
       go_meet
       case rel => exact ⟨_, (decide (t765 ≥ 2)), rs, H', ⟨by first | omega | exact Nat.le_refl _⟩, ⟨bk BK762⟩, ⟨bk BK763⟩, ⟨bq⟩⟩
 case rest =>
  clear HC4
  try clear c7
  try clear c7b0
  try clear c10
  try clear c10b0
  try clear c13
  try clear c13b0
  try clear c17
  try clear c17b0
  try clear c22
  try clear c22b0
  try clear hcz12_0
  try clear hcz12_1
  try clear hcz12_2
  try clear hcz12_3
  try clear hcz12_4
  try clear hcz12_5
  try clear hcz15_0
  try clear hcz15_1
  try clear hcz15_2
  try clear hcz15_3
  try clear hcz15_4
  try clear hcz15_5
  try clear hcz16_0
  try clear hcz16_1
  try clear hcz16_2
  try clear hcz16_3
  try clear hcz16_4
  try clear hcz16_5
  try clear hcz19_0
  try clear hcz19_1
  try clear hcz19_2
  try clear hcz19_3
  try clear hcz19_4
  try clear hcz19_5
  try clear hcz20_0
  try clear hcz20_1
  try clear hcz20_2
  try clear hcz20_3
  try clear hcz20_4
  try clear hcz20_5
  try clear hcz24_0
  try clear hcz24_1
  try clear hcz24_2
  try clear hcz24_3
  try clear hcz24_4
  try clear hcz24_5
  try clear hcz25_0
  try clear hcz25_1
  try clear hcz25_2
  try clear hcz25_3
  try clear hcz25_4
  try clear hcz25_5
  try clear hcz28_0
  try clear hcz28_1
  try clear hcz28_2
  try clear hcz28_3
  try clear hcz28_4
  try clear hcz28_5
  try clear hcz29_0
  try clear hcz29_1
  try clear hcz29_2
  try clear hcz29_3
  try clear hcz29_4
  try clear hcz29_5
  try clear hcz9_0
  try clear hcz9_1
  try clear hcz9_2
  try clear hcz9_3
  try clear hcz9_4
  try clear hcz9_5
  try clear hfz12_0
  try clear hfz12_1
  try clear hfz12_2
  try clear hfz12_3
  try clear hfz12_4
  try clear hfz12_5
  try clear hfz15_0
  try clear hfz15_1
  try clear hfz15_2
  try clear hfz15_3
  try clear hfz15_4
  try clear hfz15_5
  try clear hfz16_0
  try clear hfz16_1
  try clear hfz16_2
  try clear hfz16_3
  try clear hfz16_4
  try clear hfz16_5
  try clear hfz19_0
  try clear hfz19_1
  try clear hfz19_2
  try clear hfz19_3
  try clear hfz19_4
  try clear hfz19_5
  try clear hfz20_0
  try clear hfz20_1
  try clear hfz20_2
  try clear hfz20_3
  try clear hfz20_4
  try clear hfz20_5
  try clear hfz24_0
  try clear hfz24_1
  try clear hfz24_2
  try clear hfz24_3
  try clear hfz24_4
  try clear hfz24_5
  try clear hfz25_0
  try clear hfz25_1
  try clear hfz25_2
  try clear hfz25_3
  try clear hfz25_4
  try clear hfz25_5
  try clear hfz28_0
  try clear hfz28_1
  try clear hfz28_2
  try clear hfz28_3
  try clear hfz28_4
  try clear hfz28_5
  try clear hfz29_0
  try clear hfz29_1
  try clear hfz29_2
  try clear hfz29_3
  try clear hfz29_4
  try clear hfz29_5
  try clear hfz9_0
  try clear hfz9_1
  try clear hfz9_2
  try clear hfz9_3
  try clear hfz9_4
  try clear hfz9_5
  obtain ⟨kq, x47_3, rfl, HA, HJ3, BK762, BK763, HB⟩ := hcut
  cases kq with
  | zero => exact absurd HA.out (by simp [laws_wNear.j0])
  | succ kj3 =>
   have H := HA.out
   clear HA
   simp only [laws_wNear.j0] at H
   by_cases c30 : x47_3 = true
   ·subst c30
    replace H := it H rfl
    obtain rfl := Option.some.inj H
    go_wp2
    go_ret
    exact ⟨re, bq⟩
   ·replace c30 := Bool.eq_false_iff.mpr c30
    subst c30
    have H1 : (laws_wNear.l0 kj3 a0_2 a0_0 a0_1 a0_2 a0_3 a0_4 a0_5 a1_0 a1_1 a1_2 a1_3 a1_4 a1_5) = some r := by rw [if_neg (show ¬ (false = true) by decide)] at H; exact H
    clear H
    have H := H1
    clear H1
    have H' := Aside0.mk H
    clear H
    have hnb31 := NB762_763.out
    have hnc31 := NB763_762.out
    obtain ⟨hcz32_0, hcz32_1, hcz32_2, hcz32_3, hcz32_4, hcz32_5, hfz32_0, hfz32_1, hfz32_2, hfz32_3, hfz32_4, hfz32_5⟩ := zc6 BK762
    go_wp2
    go_loopg [7] kj3 (fun kq v7 w' => ∃ (x7_2 : Int), v7 = .int .i64 x7_2 ∧ Aside0 (laws_wNear.l0 kq x7_2 a0_0 a0_1 a0_2 a0_3 a0_4 a0_5 a1_0 a1_1 a1_2 a1_3 a1_4 a1_5 = some r) ∧ Aside0 (kq ≤ kj3) ∧ Aside0 (w'.heap[gb762]? = some (.cells #[.int .i64 a0_0, .int .i64 a0_1, .int .i64 a0_2, .int .i64 a0_3, .int .i64 a0_4, .int .i64 a0_5] 26 (0, 0))) ∧ Aside0 (w'.heap[gb763]? = some (.cells #[.int .i64 a1_0, .int .i64 a1_1, .int .i64 a1_2, .int .i64 a1_3, .int .i64 a1_4, .int .i64 a1_5] 26 (0, 0))) ∧ Aside0 (Below w.heap.size w w'))
    case atStart => exact ⟨(a0_2), rs, H', ⟨Nat.le_refl _⟩, ⟨bk BK762⟩, ⟨bk BK763⟩, ⟨bq⟩⟩
    case round =>
     clear H'
     try clear c7
     try clear c7b0
     try clear c10
     try clear c10b0
     try clear c13
     try clear c13b0
     try clear c17
     try clear c17b0
     try clear c22
     try clear c22b0
     try clear c30
     try clear hcz12_0
     try clear hcz12_1
     try clear hcz12_2
     try clear hcz12_3
     try clear hcz12_4
     try clear hcz12_5
     try clear hcz15_0
     try clear hcz15_1
     try clear hcz15_2
     try clear hcz15_3
     try clear hcz15_4
     try clear hcz15_5
     try clear hcz16_0
     try clear hcz16_1
     try clear hcz16_2
     try clear hcz16_3
     try clear hcz16_4
     try clear hcz16_5
     try clear hcz19_0
     try clear hcz19_1
     try clear hcz19_2
     try clear hcz19_3
     try clear hcz19_4
     try clear hcz19_5
     try clear hcz20_0
     try clear hcz20_1
     try clear hcz20_2
     try clear hcz20_3
     try clear hcz20_4
     try clear hcz20_5
     try clear hcz24_0
     try clear hcz24_1
     try clear hcz24_2
     try clear hcz24_3
     try clear hcz24_4
     try clear hcz24_5
     try clear hcz25_0
     try clear hcz25_1
     try clear hcz25_2
     try clear hcz25_3
     try clear hcz25_4
     try clear hcz25_5
     try clear hcz28_0
     try clear hcz28_1
     try clear hcz28_2
     try clear hcz28_3
     try clear hcz28_4
     try clear hcz28_5
     try clear hcz29_0
     try clear hcz29_1
     try clear hcz29_2
     try clear hcz29_3
     try clear hcz29_4
     try clear hcz29_5
     try clear hcz32_0
     try clear hcz32_1
     try clear hcz32_2
     try clear hcz32_3
     try clear hcz32_4
     try clear hcz32_5
     try clear hcz9_0
     try clear hcz9_1
     try clear hcz9_2
     try clear hcz9_3
     try clear hcz9_4
     try clear hcz9_5
     try clear hfz12_0
     try clear hfz12_1
     try clear hfz12_2
     try clear hfz12_3
     try clear hfz12_4
     try clear hfz12_5
     try clear hfz15_0
     try clear hfz15_1
     try clear hfz15_2
     try clear hfz15_3
     try clear hfz15_4
     try clear hfz15_5
     try clear hfz16_0
     try clear hfz16_1
     try clear hfz16_2
     try clear hfz16_3
     try clear hfz16_4
     try clear hfz16_5
     try clear hfz19_0
     try clear hfz19_1
     try clear hfz19_2
     try clear hfz19_3
     try clear hfz19_4
     try clear hfz19_5
     try clear hfz20_0
     try clear hfz20_1
     try clear hfz20_2
     try clear hfz20_3
     try clear hfz20_4
     try clear hfz20_5
     try clear hfz24_0
     try clear hfz24_1
     try clear hfz24_2
     try clear hfz24_3
     try clear hfz24_4
     try clear hfz24_5
     try clear hfz25_0
     try clear hfz25_1
     try clear hfz25_2
     try clear hfz25_3
     try clear hfz25_4
     try clear hfz25_5
     try clear hfz28_0
     try clear hfz28_1
     try clear hfz28_2
     try clear hfz28_3
     try clear hfz28_4
     try clear hfz28_5
     try clear hfz29_0
     try clear hfz29_1
     try clear hfz29_2
     try clear hfz29_3
     try clear hfz29_4
     try clear hfz29_5
     try clear hfz32_0
     try clear hfz32_1
     try clear hfz32_2
     try clear hfz32_3
     try clear hfz32_4
     try clear hfz32_5
     try clear hfz9_0
     try clear hfz9_1
     try clear hfz9_2
     try clear hfz9_3
     try clear hfz9_4
     try clear hfz9_5
     obtain ⟨x7_2, rfl, HA, HK2, BK762, BK763, HB⟩ := hrel
     cases gk with
     | zero => exact absurd HA.out (by simp [laws_wNear.l0])
     | succ k2 =>
      have H := HA.out
      clear HA
      simp only [laws_wNear.l0] at H
      by_cases c33 : x7_2 ≤ a0_3
      ·rw [if_pos c33] at H
       have c33b0 : decide (x7_2 ≤ a0_3) = true := decide_eq_true c33
       clear c33
       by_cases c34 : x7_2 ≥ a1_2
       ·rw [if_pos c34] at H
        have c34b0 : decide (a1_2 ≤ x7_2) = true := decide_eq_true c34
        clear c34
        by_cases c35 : x7_2 ≤ a1_3
        ·rw [if_pos c35] at H
         have c35b0 : decide (x7_2 ≤ a1_3) = true := decide_eq_true c35
         clear c35
         obtain rfl := Option.some.inj H
         have hnb36 := NB762_763.out
         have hnc36 := NB763_762.out
         obtain ⟨hcz37_0, hcz37_1, hcz37_2, hcz37_3, hcz37_4, hcz37_5, hfz37_0, hfz37_1, hfz37_2, hfz37_3, hfz37_4, hfz37_5⟩ := zc6 BK762
         obtain ⟨hcz38_0, hcz38_1, hcz38_2, hcz38_3, hcz38_4, hcz38_5, hfz38_0, hfz38_1, hfz38_2, hfz38_3, hfz38_4, hfz38_5⟩ := zc6 BK763
         go_wp2
         go_ret
         exact ⟨re, bq⟩
        ·rw [if_neg c35] at H
         have c35b0 : decide (x7_2 ≤ a1_3) = false := decide_eq_false c35
         clear c35
         have H' := Aside0.mk H
         clear H
         have hnb39 := NB762_763.out
         have hnc39 := NB763_762.out
         obtain ⟨hcz40_0, hcz40_1, hcz40_2, hcz40_3, hcz40_4, hcz40_5, hfz40_0, hfz40_1, hfz40_2, hfz40_3, hfz40_4, hfz40_5⟩ := zc6 BK762
         obtain ⟨hcz41_0, hcz41_1, hcz41_2, hcz41_3, hcz41_4, hcz41_5, hfz41_0, hfz41_1, hfz41_2, hfz41_3, hfz41_4, hfz41_5⟩ := zc6 BK763
         go_wp2
         go_roundg k2
         case measure => have := HJ3.out; have := HK2.out; omega
         case rel => exact ⟨(wrap64 (x7_2 + 1)), rs, H', ⟨by have := HJ3.out; have := HK2.out; omega⟩, ⟨bk BK762⟩, ⟨bk BK763⟩, ⟨bq⟩⟩
       ·rw [if_neg c34] at H
        have c34b0 : decide (a1_2 ≤ x7_2) = false := decide_eq_false c34
        clear c34
        have H' := Aside0.mk H
        clear H
        have hnb42 := NB762_763.out
        have hnc42 := NB763_762.out
        obtain ⟨hcz43_0, hcz43_1, hcz43_2, hcz43_3, hcz43_4, hcz43_5, hfz43_0, hfz43_1, hfz43_2, hfz43_3, hfz43_4, hfz43_5⟩ := zc6 BK762
        obtain ⟨hcz44_0, hcz44_1, hcz44_2, hcz44_3, hcz44_4, hcz44_5, hfz44_0, hfz44_1, hfz44_2, hfz44_3, hfz44_4, hfz44_5⟩ := zc6 BK763
        go_wp2
        go_roundg k2
        case measure => have := HJ3.out; have := HK2.out; omega
        case rel => exact ⟨(wrap64 (x7_2 + 1)), rs, H', ⟨by have := HJ3.out; have := HK2.out; omega⟩, ⟨bk BK762⟩, ⟨bk BK763⟩, ⟨bq⟩⟩
      ·rw [if_neg c33] at H
       have c33b0 : decide (x7_2 ≤ a0_3) = false := decide_eq_false c33
       clear c33
       obtain rfl := Option.some.inj H
       have hnb45 := NB762_763.out
       have hnc45 := NB763_762.out
       obtain ⟨hcz46_0, hcz46_1, hcz46_2, hcz46_3, hcz46_4, hcz46_5, hfz46_0, hfz46_1, hfz46_2, hfz46_3, hfz46_4, hfz46_5⟩ := zc6 BK762
       go_wp2
       go_ret
       exact ⟨re, bq⟩
def laws_wNearAt.T7 : Bool × List (List Nat × List Nat) := (true, [([], []), ([0], [0]), ([], []), ([1, 2], [1, 2]), ([3], [3]), ([], []), ([5], [5]), ([], []), ([6, 7], [6, 7]), ([8], [8]), ([], []), ([4, 9, 10], [4, 9, 10])])
def laws_wNearAt.B7 : List Nat := [0, 1, 0, 7, 15, 0, 32, 0, 224, 480, 0, 2047]
theorem laws_wNearAt.tab7 : rtab .any (opsOf Try.f43 7) = laws_wNearAt.T7 := by kernel_rfl
theorem laws_wNearAt.bits7 : waitsOk laws_wNearAt.T7.2 laws_wNearAt.B7 = true := by kernel_rfl
set_option maxHeartbeats 8000000 in
set_option maxRecDepth 100000 in
theorem laws_wNearAt.calls (k : Nat) (a0_0 : ByteArray) (A0_1 : Option Addr) (c0_1 : Nat) (l0_1 : List (S26)) (a1_0 : ByteArray) (A1_1 : Option Addr) (c1_1 : Nat) (l1_1 : List (S26)) (a2 : Int) (r : Bool) (w : World) (hr0_1 : Kd.C k26 w A0_1 l0_1.length l0_1) (hc0_1 : l0_1.length ≤ c0_1) (hr1_1 : Kd.C k26 w A1_1 l1_1.length l1_1) (hc1_1 : l1_1.length ≤ c1_1) (h : laws_wNearAt.f k a0_0 l0_1 a1_0 l1_1 a2 = some r) :
  Calls Try.prog 43 #[.agg #[.string a0_0, .slice A0_1 l0_1.length c0_1], .agg #[.string a1_0, .slice A1_1 l1_1.length c1_1], .int .i64 a2] w fun e w' => e = .returned (.bool r) ∧ Below w.heap.size w w' := by
 have hu39 := Try.underlying39
 have hu26 := Try.underlying26
 have HR0_1 := Aside0.mk hr0_1
 have HC0_1 := Aside0.mk hc0_1
 clear hr0_1 hc0_1
 have HR1_1 := Aside0.mk hr1_1
 have HC1_1 := Aside0.mk hc1_1
 clear hr1_1 hc1_1
 have HB := ra (Below.refl w.heap.size w)
 have H : (laws_wNearAt.l0 k a2 0 a0_0 l0_1 a1_0 l1_1) = some r := h
 clear h
 have H' := Aside0.mk H
 clear H
 go_enter Try.func43, Try.ntmps43
 go_wp2_with (first | ((with_reducible refine gate_dst (N := 3) rfl ?_); refine be 3 #[.string a0_0, .slice A0_1 l0_1.length c0_1] 39 ?_; intro gb766 hg w4 hbox hb; have _ := bs hb; have _ := ra (hbox); have _ := bz (w0 := w) hg; have _ := bz (w0 := w) hg; clear HB; rename_i HB BK766 GW766 GE766; clear hb hbox hg) | ((with_reducible refine gate_dst (N := 4) rfl ?_); refine be 4 #[.string a1_0, .slice A1_1 l1_1.length c1_1] 39 ?_; intro gb767 hg w5 hbox hb; have _ := bb (bk BK766) hb; have _ := bs hb; have _ := ra (hbox); have _ := bz (w0 := w) hg; have _ := bz (w0 := w) hg; have _ := bn hg (bk BK766); have _ := bm hg (bk BK766); clear BK766 HB; rename_i BK766 HB BK767 GW767 GE767 NB766_767 NB767_766; clear hb hbox hg))
 go_loopg [7] k (fun kq v7 w' => ∃ (x7_1 : Int), v7 = .int .i64 x7_1 ∧ Aside0 (laws_wNearAt.l0 kq a2 x7_1 a0_0 l0_1 a1_0 l1_1 = some r) ∧ Aside0 (kq ≤ k) ∧ Aside0 (w'.heap[gb766]? = some (.cells #[.string a0_0, (.slice A0_1 l0_1.length c0_1)] 39 (0, 0))) ∧ Aside0 (w'.heap[gb767]? = some (.cells #[.string a1_0, (.slice A1_1 l1_1.length c1_1)] 39 (0, 0))) ∧ Aside0 (Below w.heap.size w w'))
 case atStart => exact ⟨(0), rs, H', ⟨Nat.le_refl _⟩, ⟨bk BK766⟩, ⟨bk BK767⟩, ⟨bq⟩⟩
 case round =>
  clear H'
  obtain ⟨x7_1, rfl, HA, HK1, BK766, BK767, HB⟩ := hrel
  cases gk with
  | zero => exact absurd HA.out (by simp [laws_wNearAt.l0])
  | succ k1 =>
   have H := HA.out
   clear HA
   simp only [laws_wNearAt.l0] at H
   by_cases c6 : x7_1 < (l0_1.length : Int)
   ·rw [if_pos c6] at H
    have c6b0 : decide (x7_1 < (l0_1.length : Int)) = true := decide_eq_true c6
    clear c6
    have H' := Aside0.mk H
    clear H
    have hnb7 := NB766_767.out
    have hnc7 := NB767_766.out
    obtain ⟨hcz8_0, hcz8_1, hfz8_0, hfz8_1⟩ := zc2 BK766
    go_wp2
    go_loopg [8] k1 (fun kq v8 w' => ∃ (x8_2 : Int), v8 = .int .i64 x8_2 ∧ Aside0 (laws_wNearAt.l1 kq a2 x7_1 x8_2 a0_0 l0_1 a1_0 l1_1 = some r) ∧ Aside0 (kq ≤ k1) ∧ Aside0 (w'.heap[gb766]? = some (.cells #[.string a0_0, (.slice A0_1 l0_1.length c0_1)] 39 (0, 0))) ∧ Aside0 (w'.heap[gb767]? = some (.cells #[.string a1_0, (.slice A1_1 l1_1.length c1_1)] 39 (0, 0))) ∧ Aside0 (Below w.heap.size w w'))
    case atStart => exact ⟨(0), rs, H', ⟨Nat.le_refl _⟩, ⟨bk BK766⟩, ⟨bk BK767⟩, ⟨bq⟩⟩
    case round =>
     clear H'
     try clear c6
     try clear c6b0
     try clear hcz8_0
     try clear hcz8_1
     try clear hfz8_0
     try clear hfz8_1
     obtain ⟨x8_2, rfl, HA, HK2, BK766, BK767, HB⟩ := hrel
     cases gk with
     | zero => exact absurd HA.out (by simp [laws_wNearAt.l1])
     | succ k2 =>
      have H := HA.out
      clear HA
      simp only [laws_wNearAt.l1] at H
      by_cases c9 : x8_2 < (l1_1.length : Int)
      ·rw [if_pos c9] at H
       have c9b0 : decide (x8_2 < (l1_1.length : Int)) = true := decide_eq_true c9
       clear c9
       by_cases c10 : 0 ≤ x7_1
       ·rw [if_pos c10] at H
        have c10b0 : decide (0 ≤ x7_1) = true := decide_eq_true c10
        clear c10
        by_cases c11 : x7_1 < (l0_1.length : Int)
        ·rw [if_pos c11] at H
         have c11b0 : decide (x7_1 < (l0_1.length : Int)) = true := decide_eq_true c11
         clear c11
         by_cases c12 : 0 ≤ x8_2
         ·rw [if_pos c12] at H
          have c12b0 : decide (0 ≤ x8_2) = true := decide_eq_true c12
          clear c12
          obtain ⟨t770, A13, H⟩ := bo H
          by_cases c14 : t770 = true
          ·subst c14
           replace H := it H rfl
           obtain rfl := Option.some.inj H
           have hnb15 := NB767_766.out
           have hnc15 := NB766_767.out
           obtain ⟨hcz16_0, hcz16_1, hfz16_0, hfz16_1⟩ := zc2 BK767
           try go_wp2
           have _ := ra (blk_drew BK766.out)
           have _ := ra (blk_drew BK767.out)
           have _ := ra (below_drew1 HB.out)
           clear BK766 BK767 HB
           rename_i BK766 BK767 HB
           have p768 : 0 ≤ (x7_1 : Int) := od
           have q768 : x7_1 < (l0_1.length : Int) := od
           obtain ⟨ad768, e768, hx768_0, hx768_1, hx768_2, hx768_3, hx768_4, hx768_5⟩ := at_T26 HR0_1.out x7_1 p768 q768
           have hw768_5 := hx768_5
           have hw768_4 := hx768_4
           have hw768_3 := hx768_3
           have hw768_2 := hx768_2
           have hw768_1 := hx768_1
           have hw768_0 := hx768_0
           cases e768
           replace hx768_0 := hc HB hx768_0
           replace hx768_1 := hc HB hx768_1
           replace hx768_2 := hc HB hx768_2
           replace hx768_3 := hc HB hx768_3
           replace hx768_4 := hc HB hx768_4
           replace hx768_5 := hc HB hx768_5
           replace p768 := eq_true p768
           replace q768 := eq_true q768
           have p769 : 0 ≤ (x8_2 : Int) := od
           have q769 : x8_2 < (l1_1.length : Int) := od
           obtain ⟨ad769, e769, hx769_0, hx769_1, hx769_2, hx769_3, hx769_4, hx769_5⟩ := at_T26 HR1_1.out x8_2 p769 q769
           have hw769_5 := hx769_5
           have hw769_4 := hx769_4
           have hw769_3 := hx769_3
           have hw769_2 := hx769_2
           have hw769_1 := hx769_1
           have hw769_0 := hx769_0
           cases e769
           replace hx769_0 := hc HB hx769_0
           replace hx769_1 := hc HB hx769_1
           replace hx769_2 := hc HB hx769_2
           replace hx769_3 := hc HB hx769_3
           replace hx769_4 := hc HB hx769_4
           replace hx769_5 := hc HB hx769_5
           replace p769 := eq_true p769
           replace q769 := eq_true q769
           refine start_ (n := 12) (S := fun w' => w'.cell? ⟨gb766, 0, none⟩ = some (.string a0_0) ∧ w'.cell? ⟨gb766, 1, none⟩ = some (.slice (some ad768) l0_1.length c0_1) ∧ w'.cell? ⟨gb767, 0, none⟩ = some (.string a1_0) ∧ w'.cell? ⟨gb767, 1, none⟩ = some (.slice (some ad769) l1_1.length c1_1) ∧ w'.cell? (ad768.add ((x7_1).toNat * 6)) = some (.int .i64 ((rd_T26 l0_1 x7_1).f0)) ∧ w'.cell? ⟨(ad768.add ((x7_1).toNat * 6)).block, (ad768.add ((x7_1).toNat * 6)).off + 1, none⟩ = some (.int .i64 ((rd_T26 l0_1 x7_1).f1)) ∧ w'.cell? ⟨(ad768.add ((x7_1).toNat * 6)).block, (ad768.add ((x7_1).toNat * 6)).off + 2, none⟩ = some (.int .i64 ((rd_T26 l0_1 x7_1).f2)) ∧ w'.cell? ⟨(ad768.add ((x7_1).toNat * 6)).block, (ad768.add ((x7_1).toNat * 6)).off + 3, none⟩ = some (.int .i64 ((rd_T26 l0_1 x7_1).f3)) ∧ w'.cell? ⟨(ad768.add ((x7_1).toNat * 6)).block, (ad768.add ((x7_1).toNat * 6)).off + 4, none⟩ = some (.int .i64 ((rd_T26 l0_1 x7_1).f4)) ∧ w'.cell? ⟨(ad768.add ((x7_1).toNat * 6)).block, (ad768.add ((x7_1).toNat * 6)).off + 5, none⟩ = some (.int .i64 ((rd_T26 l0_1 x7_1).f5)) ∧ w'.cell? (ad769.add ((x8_2).toNat * 6)) = some (.int .i64 ((rd_T26 l1_1 x8_2).f0)) ∧ w'.cell? ⟨(ad769.add ((x8_2).toNat * 6)).block, (ad769.add ((x8_2).toNat * 6)).off + 1, none⟩ = some (.int .i64 ((rd_T26 l1_1 x8_2).f1)) ∧ w'.cell? ⟨(ad769.add ((x8_2).toNat * 6)).block, (ad769.add ((x8_2).toNat * 6)).off + 2, none⟩ = some (.int .i64 ((rd_T26 l1_1 x8_2).f2)) ∧ w'.cell? ⟨(ad769.add ((x8_2).toNat * 6)).block, (ad769.add ((x8_2).toNat * 6)).off + 3, none⟩ = some (.int .i64 ((rd_T26 l1_1 x8_2).f3)) ∧ w'.cell? ⟨(ad769.add ((x8_2).toNat * 6)).block, (ad769.add ((x8_2).toNat * 6)).off + 4, none⟩ = some (.int .i64 ((rd_T26 l1_1 x8_2).f4)) ∧ w'.cell? ⟨(ad769.add ((x8_2).toNat * 6)).block, (ad769.add ((x8_2).toNat * 6)).off + 5, none⟩ = some (.int .i64 ((rd_T26 l1_1 x8_2).f5))) (ds := []) (bl 12 0) (by kernel_rfl) rfl rfl ⟨(blk_cell BK766.out 0).trans rfl, (blk_cell BK766.out 1).trans rfl, (blk_cell BK767.out 0).trans rfl, (blk_cell BK767.out 1).trans rfl, (hc HB hw768_0), (hc HB hw768_1), (hc HB hw768_2), (hc HB hw768_3), (hc HB hw768_4), (hc HB hw768_5), (hc HB hw769_0), (hc HB hw769_1), (hc HB hw769_2), (hc HB hw769_3), (hc HB hw769_4), (hc HB hw769_5)⟩ (fun hHeld => ?_); refine with_tabW laws_wNearAt.tab7 laws_wNearAt.bits7 (fun HT_ HW_ => ?_)
           generalize wr.drew = w17 at BK766 BK767 HB hx768_0 hx768_1 hx768_2 hx768_3 hx768_4 hx768_5 hx769_0 hx769_1 hx769_2 hx769_3 hx769_4 hx769_5 hHeld ⊢
           refine pu 0 23 (bl 12 1) ?_
           refine pu 2 25 (bl 12 5) ?_
           refine pu 5 28 (bl 12 37) ?_
           refine pu 7 30 (bl 12 165) ?_
           refine pu 10 33 (bl 12 1189) ?_
           refine tk 1 24 (bl 12 1191) ?_ hHeld
           refine pu 3 26 (bl 12 1199) ?_
           refine tk 4 27 (bl 12 1215) ?_ hHeld
           refine tk 6 29 (bl 12 1279) ?_ hHeld
           refine pu 8 31 (bl 12 1535) ?_
           refine tk 9 32 (bl 12 2047) ?_ hHeld
           refine oe 11 34 (bl 12 4095) (fun K hK => ?_)
           refine gs Try.func46 #[.agg #[.int .i64 ((rd_T26 l0_1 x7_1).f0), .int .i64 ((rd_T26 l0_1 x7_1).f1), .int .i64 ((rd_T26 l0_1 x7_1).f2), .int .i64 ((rd_T26 l0_1 x7_1).f3), .int .i64 ((rd_T26 l0_1 x7_1).f4), .int .i64 ((rd_T26 l0_1 x7_1).f5)], .agg #[.int .i64 ((rd_T26 l1_1 x8_2).f0), .int .i64 ((rd_T26 l1_1 x8_2).f1), .int .i64 ((rd_T26 l1_1 x8_2).f2), .int .i64 ((rd_T26 l1_1 x8_2).f3), .int .i64 ((rd_T26 l1_1 x8_2).f4), .int .i64 ((rd_T26 l1_1 x8_2).f5)], .int .i64 a2] ?_
           with_reducible refine (laws_wNear.calls k2 ((rd_T26 l0_1 x7_1).f0) ((rd_T26 l0_1 x7_1).f1) ((rd_T26 l0_1 x7_1).f2) ((rd_T26 l0_1 x7_1).f3) ((rd_T26 l0_1 x7_1).f4) ((rd_T26 l0_1 x7_1).f5) ((rd_T26 l1_1 x8_2).f0) ((rd_T26 l1_1 x8_2).f1) ((rd_T26 l1_1 x8_2).f2) ((rd_T26 l1_1 x8_2).f3) ((rd_T26 l1_1 x8_2).f4) ((rd_T26 l1_1 x8_2).f5) a2 true _ A13.out).mono ?_
           rintro e w18 ⟨rfl, hb⟩
           refine ⟨_, rfl, ?_⟩
           have _ := bb (bk BK766) hb
           have _ := bb (bk BK767) hb
           have _ := bs hb
           clear BK766 BK767 HB
           rename_i BK766 BK767 HB
           (try clear hb)
           (try clear hb2)
           (try clear hk)
           (try clear hi)
           refine hK.out _ _ ⟨(blk_cell BK766.out 0).trans rfl, (blk_cell BK766.out 1).trans rfl, (blk_cell BK767.out 0).trans rfl, (blk_cell BK767.out 1).trans rfl, (hc HB hw768_0), (hc HB hw768_1), (hc HB hw768_2), (hc HB hw768_3), (hc HB hw768_4), (hc HB hw768_5), (hc HB hw769_0), (hc HB hw769_1), (hc HB hw769_2), (hc HB hw769_3), (hc HB hw769_4), (hc HB hw769_5)⟩ (fun hHeld => ?_)
           clear hK K
           refine nm 34 ?_
           refine done_ (done_of HT_.out (by kernel_rfl)) ?_
           try go_wp2
           go_ret
           exact ⟨re, bq⟩
          ·replace c14 := Bool.eq_false_iff.mpr c14
           subst c14
           have H1 : (laws_wNearAt.l1 k2 a2 x7_1 (wrap64 (x8_2 + 1)) a0_0 l0_1 a1_0 l1_1) = some r := by rw [if_neg (show ¬ (false = true) by decide)] at H; exact H
           clear H
           have H := H1
           clear H1
           have H' := Aside0.mk H
           clear H
           have hnb19 := NB767_766.out
           have hnc19 := NB766_767.out
           obtain ⟨hcz20_0, hcz20_1, hfz20_0, hfz20_1⟩ := zc2 BK767
           try go_wp2
           have _ := ra (blk_drew BK766.out)
           have _ := ra (blk_drew BK767.out)
           have _ := ra (below_drew1 HB.out)
           clear BK766 BK767 HB
           rename_i BK766 BK767 HB
           have p768 : 0 ≤ (x7_1 : Int) := od
           have q768 : x7_1 < (l0_1.length : Int) := od
           obtain ⟨ad768, e768, hx768_0, hx768_1, hx768_2, hx768_3, hx768_4, hx768_5⟩ := at_T26 HR0_1.out x7_1 p768 q768
           have hw768_5 := hx768_5
           have hw768_4 := hx768_4
           have hw768_3 := hx768_3
           have hw768_2 := hx768_2
           have hw768_1 := hx768_1
           have hw768_0 := hx768_0
           cases e768
           replace hx768_0 := hc HB hx768_0
           replace hx768_1 := hc HB hx768_1
           replace hx768_2 := hc HB hx768_2
           replace hx768_3 := hc HB hx768_3
           replace hx768_4 := hc HB hx768_4
           replace hx768_5 := hc HB hx768_5
           replace p768 := eq_true p768
           replace q768 := eq_true q768
           have p769 : 0 ≤ (x8_2 : Int) := od
           have q769 : x8_2 < (l1_1.length : Int) := od
           obtain ⟨ad769, e769, hx769_0, hx769_1, hx769_2, hx769_3, hx769_4, hx769_5⟩ := at_T26 HR1_1.out x8_2 p769 q769
           have hw769_5 := hx769_5
           have hw769_4 := hx769_4
           have hw769_3 := hx769_3
           have hw769_2 := hx769_2
           have hw769_1 := hx769_1
           have hw769_0 := hx769_0
           cases e769
           replace hx769_0 := hc HB hx769_0
           replace hx769_1 := hc HB hx769_1
           replace hx769_2 := hc HB hx769_2
           replace hx769_3 := hc HB hx769_3
           replace hx769_4 := hc HB hx769_4
           replace hx769_5 := hc HB hx769_5
           replace p769 := eq_true p769
           replace q769 := eq_true q769
           refine start_ (n := 12) (S := fun w' => w'.cell? ⟨gb766, 0, none⟩ = some (.string a0_0) ∧ w'.cell? ⟨gb766, 1, none⟩ = some (.slice (some ad768) l0_1.length c0_1) ∧ w'.cell? ⟨gb767, 0, none⟩ = some (.string a1_0) ∧ w'.cell? ⟨gb767, 1, none⟩ = some (.slice (some ad769) l1_1.length c1_1) ∧ w'.cell? (ad768.add ((x7_1).toNat * 6)) = some (.int .i64 ((rd_T26 l0_1 x7_1).f0)) ∧ w'.cell? ⟨(ad768.add ((x7_1).toNat * 6)).block, (ad768.add ((x7_1).toNat * 6)).off + 1, none⟩ = some (.int .i64 ((rd_T26 l0_1 x7_1).f1)) ∧ w'.cell? ⟨(ad768.add ((x7_1).toNat * 6)).block, (ad768.add ((x7_1).toNat * 6)).off + 2, none⟩ = some (.int .i64 ((rd_T26 l0_1 x7_1).f2)) ∧ w'.cell? ⟨(ad768.add ((x7_1).toNat * 6)).block, (ad768.add ((x7_1).toNat * 6)).off + 3, none⟩ = some (.int .i64 ((rd_T26 l0_1 x7_1).f3)) ∧ w'.cell? ⟨(ad768.add ((x7_1).toNat * 6)).block, (ad768.add ((x7_1).toNat * 6)).off + 4, none⟩ = some (.int .i64 ((rd_T26 l0_1 x7_1).f4)) ∧ w'.cell? ⟨(ad768.add ((x7_1).toNat * 6)).block, (ad768.add ((x7_1).toNat * 6)).off + 5, none⟩ = some (.int .i64 ((rd_T26 l0_1 x7_1).f5)) ∧ w'.cell? (ad769.add ((x8_2).toNat * 6)) = some (.int .i64 ((rd_T26 l1_1 x8_2).f0)) ∧ w'.cell? ⟨(ad769.add ((x8_2).toNat * 6)).block, (ad769.add ((x8_2).toNat * 6)).off + 1, none⟩ = some (.int .i64 ((rd_T26 l1_1 x8_2).f1)) ∧ w'.cell? ⟨(ad769.add ((x8_2).toNat * 6)).block, (ad769.add ((x8_2).toNat * 6)).off + 2, none⟩ = some (.int .i64 ((rd_T26 l1_1 x8_2).f2)) ∧ w'.cell? ⟨(ad769.add ((x8_2).toNat * 6)).block, (ad769.add ((x8_2).toNat * 6)).off + 3, none⟩ = some (.int .i64 ((rd_T26 l1_1 x8_2).f3)) ∧ w'.cell? ⟨(ad769.add ((x8_2).toNat * 6)).block, (ad769.add ((x8_2).toNat * 6)).off + 4, none⟩ = some (.int .i64 ((rd_T26 l1_1 x8_2).f4)) ∧ w'.cell? ⟨(ad769.add ((x8_2).toNat * 6)).block, (ad769.add ((x8_2).toNat * 6)).off + 5, none⟩ = some (.int .i64 ((rd_T26 l1_1 x8_2).f5))) (ds := []) (bl 12 0) (by kernel_rfl) rfl rfl ⟨(blk_cell BK766.out 0).trans rfl, (blk_cell BK766.out 1).trans rfl, (blk_cell BK767.out 0).trans rfl, (blk_cell BK767.out 1).trans rfl, (hc HB hw768_0), (hc HB hw768_1), (hc HB hw768_2), (hc HB hw768_3), (hc HB hw768_4), (hc HB hw768_5), (hc HB hw769_0), (hc HB hw769_1), (hc HB hw769_2), (hc HB hw769_3), (hc HB hw769_4), (hc HB hw769_5)⟩ (fun hHeld => ?_); refine with_tabW laws_wNearAt.tab7 laws_wNearAt.bits7 (fun HT_ HW_ => ?_)
           generalize wr.drew = w21 at BK766 BK767 HB hx768_0 hx768_1 hx768_2 hx768_3 hx768_4 hx768_5 hx769_0 hx769_1 hx769_2 hx769_3 hx769_4 hx769_5 hHeld ⊢
           refine pu 0 23 (bl 12 1) ?_
           refine pu 2 25 (bl 12 5) ?_
           refine pu 5 28 (bl 12 37) ?_
           refine pu 7 30 (bl 12 165) ?_
           refine pu 10 33 (bl 12 1189) ?_
           refine tk 1 24 (bl 12 1191) ?_ hHeld
           refine pu 3 26 (bl 12 1199) ?_
           refine tk 4 27 (bl 12 1215) ?_ hHeld
           refine tk 6 29 (bl 12 1279) ?_ hHeld
           refine pu 8 31 (bl 12 1535) ?_
           refine tk 9 32 (bl 12 2047) ?_ hHeld
           refine oe 11 34 (bl 12 4095) (fun K hK => ?_)
           refine gs Try.func46 #[.agg #[.int .i64 ((rd_T26 l0_1 x7_1).f0), .int .i64 ((rd_T26 l0_1 x7_1).f1), .int .i64 ((rd_T26 l0_1 x7_1).f2), .int .i64 ((rd_T26 l0_1 x7_1).f3), .int .i64 ((rd_T26 l0_1 x7_1).f4), .int .i64 ((rd_T26 l0_1 x7_1).f5)], .agg #[.int .i64 ((rd_T26 l1_1 x8_2).f0), .int .i64 ((rd_T26 l1_1 x8_2).f1), .int .i64 ((rd_T26 l1_1 x8_2).f2), .int .i64 ((rd_T26 l1_1 x8_2).f3), .int .i64 ((rd_T26 l1_1 x8_2).f4), .int .i64 ((rd_T26 l1_1 x8_2).f5)], .int .i64 a2] ?_
           with_reducible refine (laws_wNear.calls k2 ((rd_T26 l0_1 x7_1).f0) ((rd_T26 l0_1 x7_1).f1) ((rd_T26 l0_1 x7_1).f2) ((rd_T26 l0_1 x7_1).f3) ((rd_T26 l0_1 x7_1).f4) ((rd_T26 l0_1 x7_1).f5) ((rd_T26 l1_1 x8_2).f0) ((rd_T26 l1_1 x8_2).f1) ((rd_T26 l1_1 x8_2).f2) ((rd_T26 l1_1 x8_2).f3) ((rd_T26 l1_1 x8_2).f4) ((rd_T26 l1_1 x8_2).f5) a2 false _ A13.out).mono ?_
           rintro e w22 ⟨rfl, hb⟩
           refine ⟨_, rfl, ?_⟩
           have _ := bb (bk BK766) hb
           have _ := bb (bk BK767) hb
           have _ := bs hb
           clear BK766 BK767 HB
           rename_i BK766 BK767 HB
           (try clear hb)
           (try clear hb2)
           (try clear hk)
           (try clear hi)
           refine hK.out _ _ ⟨(blk_cell BK766.out 0).trans rfl, (blk_cell BK766.out 1).trans rfl, (blk_cell BK767.out 0).trans rfl, (blk_cell BK767.out 1).trans rfl, (hc HB hw768_0), (hc HB hw768_1), (hc HB hw768_2), (hc HB hw768_3), (hc HB hw768_4), (hc HB hw768_5), (hc HB hw769_0), (hc HB hw769_1), (hc HB hw769_2), (hc HB hw769_3), (hc HB hw769_4), (hc HB hw769_5)⟩ (fun hHeld => ?_)
           clear hK K
           refine nm 34 ?_
           refine done_ (done_of HT_.out (by kernel_rfl)) ?_
           try go_wp2
           go_roundg k2
           case measure => have := HK1.out; have := HK2.out; omega
           case rel => exact ⟨(wrap64 (x8_2 + 1)), rs, H', ⟨by have := HK1.out; have := HK2.out; omega⟩, ⟨bk BK766⟩, ⟨bk BK767⟩, ⟨bq⟩⟩
         ·rw [if_neg c12] at H
          exact absurd H (by simp)
        ·rw [if_neg c11] at H
         exact absurd H (by simp)
       ·rw [if_neg c10] at H
        exact absurd H (by simp)
      ·rw [if_neg c9] at H
       have c9b0 : decide (x8_2 < (l1_1.length : Int)) = false := decide_eq_false c9
       clear c9
       have H' := Aside0.mk H
       clear H
       have hnb23 := NB767_766.out
       have hnc23 := NB766_767.out
       obtain ⟨hcz24_0, hcz24_1, hfz24_0, hfz24_1⟩ := zc2 BK767
       go_wp2
       go_roundg k2
       case measure => have := HK1.out; have := HK2.out; omega
       case rel => exact ⟨(wrap64 (x7_1 + 1)), rs, H', ⟨by have := HK1.out; have := HK2.out; omega⟩, ⟨bk BK766⟩, ⟨bk BK767⟩, ⟨bq⟩⟩
   ·rw [if_neg c6] at H
    have c6b0 : decide (x7_1 < (l0_1.length : Int)) = false := decide_eq_false c6
    clear c6
    obtain rfl := Option.some.inj H
    have hnb25 := NB766_767.out
    have hnc25 := NB767_766.out
    obtain ⟨hcz26_0, hcz26_1, hfz26_0, hfz26_1⟩ := zc2 BK766
    go_wp2
    go_ret
    exact ⟨re, bq⟩
def laws_wEver.T4 : Bool × List (List Nat × List Nat) := (true, [([], []), ([], []), ([], []), ([2], [2]), ([], []), ([3, 4], [3, 4]), ([5], [5]), ([6], [6]), ([0, 1, 7], [0, 1, 7])])
def laws_wEver.B4 : List Nat := [0, 0, 0, 4, 0, 28, 60, 124, 255]
theorem laws_wEver.tab4 : rtab .any (opsOf Try.f45 4) = laws_wEver.T4 := by kernel_rfl
theorem laws_wEver.bits4 : waitsOk laws_wEver.T4.2 laws_wEver.B4 = true := by kernel_rfl
def laws_wEver.T9 : Bool × List (List Nat × List Nat) := (true, [([], []), ([], []), ([], []), ([2], [2]), ([], []), ([3, 4], [3, 4]), ([5], [5]), ([6], [6]), ([0, 1, 7], [0, 1, 7])])
def laws_wEver.B9 : List Nat := [0, 0, 0, 4, 0, 28, 60, 124, 255]
theorem laws_wEver.tab9 : rtab .any (opsOf Try.f45 9) = laws_wEver.T9 := by kernel_rfl
theorem laws_wEver.bits9 : waitsOk laws_wEver.T9.2 laws_wEver.B9 = true := by kernel_rfl
set_option maxHeartbeats 8000000 in
set_option maxRecDepth 100000 in
theorem laws_wEver.calls (k : Nat) (a0_0 : ByteArray) (A0_1 : Option Addr) (c0_1 : Nat) (l0_1 : List (S26)) (a1_0 : ByteArray) (A1_1 : Option Addr) (c1_1 : Nat) (l1_1 : List (S26)) (r : Bool) (w : World) (hr0_1 : Kd.C k26 w A0_1 l0_1.length l0_1) (hc0_1 : l0_1.length ≤ c0_1) (hr1_1 : Kd.C k26 w A1_1 l1_1.length l1_1) (hc1_1 : l1_1.length ≤ c1_1) (h : laws_wEver.f k a0_0 l0_1 a1_0 l1_1 = some r) :
  Calls Try.prog 45 #[.agg #[.string a0_0, .slice A0_1 l0_1.length c0_1], .agg #[.string a1_0, .slice A1_1 l1_1.length c1_1]] w fun e w' => e = .returned (.bool r) ∧ Below w.heap.size w w' := by
 have hu39 := Try.underlying39
 have HR0_1 := Aside0.mk hr0_1
 have HC0_1 := Aside0.mk hc0_1
 clear hr0_1 hc0_1
 have HR1_1 := Aside0.mk hr1_1
 have HC1_1 := Aside0.mk hc1_1
 clear hr1_1 hc1_1
 have HB := ra (Below.refl w.heap.size w)
 have H : (laws_wEver.l0 k 0 a0_0 l0_1 a1_0 l1_1) = some r := h
 clear h
 have H' := Aside0.mk H
 clear H
 go_enter Try.func45, Try.ntmps45
 go_wp2_with (first | ((with_reducible refine gate_dst (N := 2) rfl ?_); refine be 2 #[.string a0_0, .slice A0_1 l0_1.length c0_1] 39 ?_; intro gb845 hg w3 hbox hb; have _ := bs hb; have _ := ra (hbox); have _ := bz (w0 := w) hg; have _ := bz (w0 := w) hg; clear HB; rename_i HB BK845 GW845 GE845; clear hb hbox hg) | ((with_reducible refine gate_dst (N := 3) rfl ?_); refine be 3 #[.string a1_0, .slice A1_1 l1_1.length c1_1] 39 ?_; intro gb846 hg w4 hbox hb; have _ := bb (bk BK845) hb; have _ := bs hb; have _ := ra (hbox); have _ := bz (w0 := w) hg; have _ := bz (w0 := w) hg; have _ := bn hg (bk BK845); have _ := bm hg (bk BK845); clear BK845 HB; rename_i BK845 HB BK846 GW846 GE846 NB845_846 NB846_845; clear hb hbox hg))
 go_loopg [5] k (fun kq v5 w' => ∃ (x5_1 : Int), v5 = .int .i64 x5_1 ∧ Aside0 (laws_wEver.l0 kq x5_1 a0_0 l0_1 a1_0 l1_1 = some r) ∧ Aside0 (kq ≤ k) ∧ Aside0 (w'.heap[gb845]? = some (.cells #[.string a0_0, (.slice A0_1 l0_1.length c0_1)] 39 (0, 0))) ∧ Aside0 (w'.heap[gb846]? = some (.cells #[.string a1_0, (.slice A1_1 l1_1.length c1_1)] 39 (0, 0))) ∧ Aside0 (Below w.heap.size w w'))
 case atStart => exact ⟨(0), rs, H', ⟨Nat.le_refl _⟩, ⟨bk BK845⟩, ⟨bk BK846⟩, ⟨bq⟩⟩
 case round =>
  clear H'
  obtain ⟨x5_1, rfl, HA, HK1, BK845, BK846, HB⟩ := hrel
  cases gk with
  | zero => exact absurd HA.out (by simp [laws_wEver.l0])
  | succ k1 =>
   have H := HA.out
   clear HA
   simp only [laws_wEver.l0] at H
   by_cases c5 : x5_1 < (l0_1.length : Int)
   ·rw [if_pos c5] at H
    have c5b0 : decide (x5_1 < (l0_1.length : Int)) = true := decide_eq_true c5
    clear c5
    by_cases c6 : 0 ≤ x5_1
    ·rw [if_pos c6] at H
     have c6b0 : decide (0 ≤ x5_1) = true := decide_eq_true c6
     clear c6
     obtain ⟨t848, A7, H⟩ := bo H
     by_cases c8 : t848 = true
     ·subst c8
      replace H := it H rfl
      obtain rfl := Option.some.inj H
      have hnb9 := NB845_846.out
      have hnc9 := NB846_845.out
      obtain ⟨hcz10_0, hcz10_1, hfz10_0, hfz10_1⟩ := zc2 BK845
      try go_wp2
      have _ := ra (blk_drew BK845.out)
      have _ := ra (blk_drew BK846.out)
      have _ := ra (below_drew1 HB.out)
      clear BK845 BK846 HB
      rename_i BK845 BK846 HB
      have p847 : 0 ≤ (x5_1 : Int) := od
      have q847 : x5_1 < (l0_1.length : Int) := od
      obtain ⟨ad847, e847, hx847_0, hx847_1, hx847_2, hx847_3, hx847_4, hx847_5⟩ := at_T26 HR0_1.out x5_1 p847 q847
      have hw847_5 := hx847_5
      have hw847_4 := hx847_4
      have hw847_3 := hx847_3
      have hw847_2 := hx847_2
      have hw847_1 := hx847_1
      have hw847_0 := hx847_0
      cases e847
      replace hx847_0 := hc HB hx847_0
      replace hx847_1 := hc HB hx847_1
      replace hx847_2 := hc HB hx847_2
      replace hx847_3 := hc HB hx847_3
      replace hx847_4 := hc HB hx847_4
      replace hx847_5 := hc HB hx847_5
      replace p847 := eq_true p847
      replace q847 := eq_true q847
      refine start_ (n := 9) (S := fun w' => w'.cell? ⟨gb845, 0, none⟩ = some (.string a0_0) ∧ w'.cell? ⟨gb845, 1, none⟩ = some (.slice (some ad847) l0_1.length c0_1) ∧ w'.cell? ⟨gb846, 0, none⟩ = some (.string a1_0) ∧ w'.cell? ⟨gb846, 1, none⟩ = some (.slice A1_1 l1_1.length c1_1) ∧ w'.cell? (ad847.add ((x5_1).toNat * 6)) = some (.int .i64 ((rd_T26 l0_1 x5_1).f0)) ∧ w'.cell? ⟨(ad847.add ((x5_1).toNat * 6)).block, (ad847.add ((x5_1).toNat * 6)).off + 1, none⟩ = some (.int .i64 ((rd_T26 l0_1 x5_1).f1)) ∧ w'.cell? ⟨(ad847.add ((x5_1).toNat * 6)).block, (ad847.add ((x5_1).toNat * 6)).off + 2, none⟩ = some (.int .i64 ((rd_T26 l0_1 x5_1).f2)) ∧ w'.cell? ⟨(ad847.add ((x5_1).toNat * 6)).block, (ad847.add ((x5_1).toNat * 6)).off + 3, none⟩ = some (.int .i64 ((rd_T26 l0_1 x5_1).f3)) ∧ w'.cell? ⟨(ad847.add ((x5_1).toNat * 6)).block, (ad847.add ((x5_1).toNat * 6)).off + 4, none⟩ = some (.int .i64 ((rd_T26 l0_1 x5_1).f4)) ∧ w'.cell? ⟨(ad847.add ((x5_1).toNat * 6)).block, (ad847.add ((x5_1).toNat * 6)).off + 5, none⟩ = some (.int .i64 ((rd_T26 l0_1 x5_1).f5))) (ds := []) (bl 9 0) (by kernel_rfl) rfl rfl ⟨(blk_cell BK845.out 0).trans rfl, (blk_cell BK845.out 1).trans rfl, (blk_cell BK846.out 0).trans rfl, (blk_cell BK846.out 1).trans rfl, (hc HB hw847_0), (hc HB hw847_1), (hc HB hw847_2), (hc HB hw847_3), (hc HB hw847_4), (hc HB hw847_5)⟩ (fun hHeld => ?_); refine with_tabW laws_wEver.tab4 laws_wEver.bits4 (fun HT_ HW_ => ?_)
      generalize wr.drew = w11 at BK845 BK846 HB hx847_0 hx847_1 hx847_2 hx847_3 hx847_4 hx847_5 hHeld ⊢
      refine pu 2 16 (bl 9 4) ?_
      refine pu 4 18 (bl 9 20) ?_
      refine tk 0 14 (bl 9 21) ?_ hHeld
      refine tk 1 15 (bl 9 23) ?_ hHeld
      refine tk 3 17 (bl 9 31) ?_ hHeld
      refine pu 5 19 (bl 9 63) ?_
      refine pu 6 20 (bl 9 127) ?_
      refine tk 7 21 (bl 9 255) ?_ hHeld
      refine oe 8 22 (bl 9 511) (fun K hK => ?_)
      refine gs Try.func43 #[.agg #[.string a0_0, .slice (some ad847) l0_1.length c0_1], .agg #[.string a1_0, .slice A1_1 l1_1.length c1_1], .int .i64 ((rd_T26 l0_1 x5_1).f4)] ?_
      with_reducible refine (laws_wNearAt.calls k1 a0_0 _ _ l0_1 a1_0 _ _ l1_1 ((rd_T26 l0_1 x5_1).f4) true _ ?side1 ?side2 ?side3 ?side4 A7.out).mono ?_
      (case side1 => exact sc HR0_1)
      (case side2 => exact HC0_1.out)
      (case side3 => exact sc HR1_1)
      (case side4 => exact HC1_1.out)
      rintro e w12 ⟨rfl, hb⟩
      refine ⟨_, rfl, ?_⟩
      have _ := bb (bk BK845) hb
      have _ := bb (bk BK846) hb
      have _ := bs hb
      clear BK845 BK846 HB
      rename_i BK845 BK846 HB
      (try clear hb)
      (try clear hb2)
      (try clear hk)
      (try clear hi)
      refine hK.out _ _ ⟨(blk_cell BK845.out 0).trans rfl, (blk_cell BK845.out 1).trans rfl, (blk_cell BK846.out 0).trans rfl, (blk_cell BK846.out 1).trans rfl, (hc HB hw847_0), (hc HB hw847_1), (hc HB hw847_2), (hc HB hw847_3), (hc HB hw847_4), (hc HB hw847_5)⟩ (fun hHeld => ?_)
      clear hK K
      refine nm 22 ?_
      refine done_ (done_of HT_.out (by kernel_rfl)) ?_
      try go_wp2
      go_ret
      exact ⟨re, bq⟩
     ·replace c8 := Bool.eq_false_iff.mpr c8
      subst c8
      have H1 : (laws_wEver.l0 k1 (wrap64 (x5_1 + 1)) a0_0 l0_1 a1_0 l1_1) = some r := by rw [if_neg (show ¬ (false = true) by decide)] at H; exact H
      clear H
      have H := H1
      clear H1
      have H' := Aside0.mk H
      clear H
      have hnb13 := NB845_846.out
      have hnc13 := NB846_845.out
      obtain ⟨hcz14_0, hcz14_1, hfz14_0, hfz14_1⟩ := zc2 BK845
      try go_wp2
      have _ := ra (blk_drew BK845.out)
      have _ := ra (blk_drew BK846.out)
      have _ := ra (below_drew1 HB.out)
      clear BK845 BK846 HB
      rename_i BK845 BK846 HB
      have p847 : 0 ≤ (x5_1 : Int) := od
      have q847 : x5_1 < (l0_1.length : Int) := od
      obtain ⟨ad847, e847, hx847_0, hx847_1, hx847_2, hx847_3, hx847_4, hx847_5⟩ := at_T26 HR0_1.out x5_1 p847 q847
      have hw847_5 := hx847_5
      have hw847_4 := hx847_4
      have hw847_3 := hx847_3
      have hw847_2 := hx847_2
      have hw847_1 := hx847_1
      have hw847_0 := hx847_0
      cases e847
      replace hx847_0 := hc HB hx847_0
      replace hx847_1 := hc HB hx847_1
      replace hx847_2 := hc HB hx847_2
      replace hx847_3 := hc HB hx847_3
      replace hx847_4 := hc HB hx847_4
      replace hx847_5 := hc HB hx847_5
      replace p847 := eq_true p847
      replace q847 := eq_true q847
      refine start_ (n := 9) (S := fun w' => w'.cell? ⟨gb845, 0, none⟩ = some (.string a0_0) ∧ w'.cell? ⟨gb845, 1, none⟩ = some (.slice (some ad847) l0_1.length c0_1) ∧ w'.cell? ⟨gb846, 0, none⟩ = some (.string a1_0) ∧ w'.cell? ⟨gb846, 1, none⟩ = some (.slice A1_1 l1_1.length c1_1) ∧ w'.cell? (ad847.add ((x5_1).toNat * 6)) = some (.int .i64 ((rd_T26 l0_1 x5_1).f0)) ∧ w'.cell? ⟨(ad847.add ((x5_1).toNat * 6)).block, (ad847.add ((x5_1).toNat * 6)).off + 1, none⟩ = some (.int .i64 ((rd_T26 l0_1 x5_1).f1)) ∧ w'.cell? ⟨(ad847.add ((x5_1).toNat * 6)).block, (ad847.add ((x5_1).toNat * 6)).off + 2, none⟩ = some (.int .i64 ((rd_T26 l0_1 x5_1).f2)) ∧ w'.cell? ⟨(ad847.add ((x5_1).toNat * 6)).block, (ad847.add ((x5_1).toNat * 6)).off + 3, none⟩ = some (.int .i64 ((rd_T26 l0_1 x5_1).f3)) ∧ w'.cell? ⟨(ad847.add ((x5_1).toNat * 6)).block, (ad847.add ((x5_1).toNat * 6)).off + 4, none⟩ = some (.int .i64 ((rd_T26 l0_1 x5_1).f4)) ∧ w'.cell? ⟨(ad847.add ((x5_1).toNat * 6)).block, (ad847.add ((x5_1).toNat * 6)).off + 5, none⟩ = some (.int .i64 ((rd_T26 l0_1 x5_1).f5))) (ds := []) (bl 9 0) (by kernel_rfl) rfl rfl ⟨(blk_cell BK845.out 0).trans rfl, (blk_cell BK845.out 1).trans rfl, (blk_cell BK846.out 0).trans rfl, (blk_cell BK846.out 1).trans rfl, (hc HB hw847_0), (hc HB hw847_1), (hc HB hw847_2), (hc HB hw847_3), (hc HB hw847_4), (hc HB hw847_5)⟩ (fun hHeld => ?_); refine with_tabW laws_wEver.tab4 laws_wEver.bits4 (fun HT_ HW_ => ?_)
      generalize wr.drew = w15 at BK845 BK846 HB hx847_0 hx847_1 hx847_2 hx847_3 hx847_4 hx847_5 hHeld ⊢
      refine pu 2 16 (bl 9 4) ?_
      refine pu 4 18 (bl 9 20) ?_
      refine tk 0 14 (bl 9 21) ?_ hHeld
      refine tk 1 15 (bl 9 23) ?_ hHeld
      refine tk 3 17 (bl 9 31) ?_ hHeld
      refine pu 5 19 (bl 9 63) ?_
      refine pu 6 20 (bl 9 127) ?_
      refine tk 7 21 (bl 9 255) ?_ hHeld
      refine oe 8 22 (bl 9 511) (fun K hK => ?_)
      refine gs Try.func43 #[.agg #[.string a0_0, .slice (some ad847) l0_1.length c0_1], .agg #[.string a1_0, .slice A1_1 l1_1.length c1_1], .int .i64 ((rd_T26 l0_1 x5_1).f4)] ?_
      with_reducible refine (laws_wNearAt.calls k1 a0_0 _ _ l0_1 a1_0 _ _ l1_1 ((rd_T26 l0_1 x5_1).f4) false _ ?side1 ?side2 ?side3 ?side4 A7.out).mono ?_
      (case side1 => exact sc HR0_1)
      (case side2 => exact HC0_1.out)
      (case side3 => exact sc HR1_1)
      (case side4 => exact HC1_1.out)
      rintro e w16 ⟨rfl, hb⟩
      refine ⟨_, rfl, ?_⟩
      have _ := bb (bk BK845) hb
      have _ := bb (bk BK846) hb
      have _ := bs hb
      clear BK845 BK846 HB
      rename_i BK845 BK846 HB
      (try clear hb)
      (try clear hb2)
      (try clear hk)
      (try clear hi)
      refine hK.out _ _ ⟨(blk_cell BK845.out 0).trans rfl, (blk_cell BK845.out 1).trans rfl, (blk_cell BK846.out 0).trans rfl, (blk_cell BK846.out 1).trans rfl, (hc HB hw847_0), (hc HB hw847_1), (hc HB hw847_2), (hc HB hw847_3), (hc HB hw847_4), (hc HB hw847_5)⟩ (fun hHeld => ?_)
      clear hK K
      refine nm 22 ?_
      refine done_ (done_of HT_.out (by kernel_rfl)) ?_
      try go_wp2
      go_roundg k1
      case measure => have := HK1.out; omega
      case rel => exact ⟨(wrap64 (x5_1 + 1)), rs, H', ⟨by have := HK1.out; omega⟩, ⟨bk BK845⟩, ⟨bk BK846⟩, ⟨bq⟩⟩
    ·rw [if_neg c6] at H
     exact absurd H (by simp)
   ·rw [if_neg c5] at H
    have c5b0 : decide (x5_1 < (l0_1.length : Int)) = false := decide_eq_false c5
    clear c5
    have H' := Aside0.mk H
    clear H
    have hnb17 := NB845_846.out
    have hnc17 := NB846_845.out
    obtain ⟨hcz18_0, hcz18_1, hfz18_0, hfz18_1⟩ := zc2 BK845
    go_wp2
    go_loopg [6] k1 (fun kq v6 w' => ∃ (x6_2 : Int), v6 = .int .i64 x6_2 ∧ Aside0 (laws_wEver.l1 kq x6_2 a0_0 l0_1 a1_0 l1_1 = some r) ∧ Aside0 (kq ≤ k1) ∧ Aside0 (w'.heap[gb845]? = some (.cells #[.string a0_0, (.slice A0_1 l0_1.length c0_1)] 39 (0, 0))) ∧ Aside0 (w'.heap[gb846]? = some (.cells #[.string a1_0, (.slice A1_1 l1_1.length c1_1)] 39 (0, 0))) ∧ Aside0 (Below w.heap.size w w'))
    case atStart => exact ⟨(0), rs, H', ⟨Nat.le_refl _⟩, ⟨bk BK845⟩, ⟨bk BK846⟩, ⟨bq⟩⟩
    case round =>
     clear H'
     try clear c5
     try clear c5b0
     try clear c6
     try clear c6b0
     try clear c8
     try clear hcz10_0
     try clear hcz10_1
     try clear hcz14_0
     try clear hcz14_1
     try clear hcz18_0
     try clear hcz18_1
     try clear hfz10_0
     try clear hfz10_1
     try clear hfz14_0
     try clear hfz14_1
     try clear hfz18_0
     try clear hfz18_1
     try clear hx847_0
     try clear hx847_1
     try clear hx847_2
     try clear hx847_3
     try clear hx847_4
     try clear hx847_5
     try clear p847
     try clear q847
     obtain ⟨x6_2, rfl, HA, HK2, BK845, BK846, HB⟩ := hrel
     cases gk with
     | zero => exact absurd HA.out (by simp [laws_wEver.l1])
     | succ k2 =>
      have H := HA.out
      clear HA
      simp only [laws_wEver.l1] at H
      by_cases c19 : x6_2 < (l1_1.length : Int)
      ·rw [if_pos c19] at H
       have c19b0 : decide (x6_2 < (l1_1.length : Int)) = true := decide_eq_true c19
       clear c19
       by_cases c20 : 0 ≤ x6_2
       ·rw [if_pos c20] at H
        have c20b0 : decide (0 ≤ x6_2) = true := decide_eq_true c20
        clear c20
        obtain ⟨t850, A21, H⟩ := bo H
        by_cases c22 : t850 = true
        ·subst c22
         replace H := it H rfl
         obtain rfl := Option.some.inj H
         have hnb23 := NB846_845.out
         have hnc23 := NB845_846.out
         obtain ⟨hcz24_0, hcz24_1, hfz24_0, hfz24_1⟩ := zc2 BK846
         try go_wp2
         have _ := ra (blk_drew BK845.out)
         have _ := ra (blk_drew BK846.out)
         have _ := ra (below_drew1 HB.out)
         clear BK845 BK846 HB
         rename_i BK845 BK846 HB
         have p849 : 0 ≤ (x6_2 : Int) := od
         have q849 : x6_2 < (l1_1.length : Int) := od
         obtain ⟨ad849, e849, hx849_0, hx849_1, hx849_2, hx849_3, hx849_4, hx849_5⟩ := at_T26 HR1_1.out x6_2 p849 q849
         have hw849_5 := hx849_5
         have hw849_4 := hx849_4
         have hw849_3 := hx849_3
         have hw849_2 := hx849_2
         have hw849_1 := hx849_1
         have hw849_0 := hx849_0
         cases e849
         replace hx849_0 := hc HB hx849_0
         replace hx849_1 := hc HB hx849_1
         replace hx849_2 := hc HB hx849_2
         replace hx849_3 := hc HB hx849_3
         replace hx849_4 := hc HB hx849_4
         replace hx849_5 := hc HB hx849_5
         replace p849 := eq_true p849
         replace q849 := eq_true q849
         refine start_ (n := 9) (S := fun w' => w'.cell? ⟨gb845, 0, none⟩ = some (.string a0_0) ∧ w'.cell? ⟨gb845, 1, none⟩ = some (.slice A0_1 l0_1.length c0_1) ∧ w'.cell? ⟨gb846, 0, none⟩ = some (.string a1_0) ∧ w'.cell? ⟨gb846, 1, none⟩ = some (.slice (some ad849) l1_1.length c1_1) ∧ w'.cell? (ad849.add ((x6_2).toNat * 6)) = some (.int .i64 ((rd_T26 l1_1 x6_2).f0)) ∧ w'.cell? ⟨(ad849.add ((x6_2).toNat * 6)).block, (ad849.add ((x6_2).toNat * 6)).off + 1, none⟩ = some (.int .i64 ((rd_T26 l1_1 x6_2).f1)) ∧ w'.cell? ⟨(ad849.add ((x6_2).toNat * 6)).block, (ad849.add ((x6_2).toNat * 6)).off + 2, none⟩ = some (.int .i64 ((rd_T26 l1_1 x6_2).f2)) ∧ w'.cell? ⟨(ad849.add ((x6_2).toNat * 6)).block, (ad849.add ((x6_2).toNat * 6)).off + 3, none⟩ = some (.int .i64 ((rd_T26 l1_1 x6_2).f3)) ∧ w'.cell? ⟨(ad849.add ((x6_2).toNat * 6)).block, (ad849.add ((x6_2).toNat * 6)).off + 4, none⟩ = some (.int .i64 ((rd_T26 l1_1 x6_2).f4)) ∧ w'.cell? ⟨(ad849.add ((x6_2).toNat * 6)).block, (ad849.add ((x6_2).toNat * 6)).off + 5, none⟩ = some (.int .i64 ((rd_T26 l1_1 x6_2).f5))) (ds := []) (bl 9 0) (by kernel_rfl) rfl rfl ⟨(blk_cell BK845.out 0).trans rfl, (blk_cell BK845.out 1).trans rfl, (blk_cell BK846.out 0).trans rfl, (blk_cell BK846.out 1).trans rfl, (hc HB hw849_0), (hc HB hw849_1), (hc HB hw849_2), (hc HB hw849_3), (hc HB hw849_4), (hc HB hw849_5)⟩ (fun hHeld => ?_); refine with_tabW laws_wEver.tab9 laws_wEver.bits9 (fun HT_ HW_ => ?_)
         generalize wr.drew = w25 at BK845 BK846 HB hx849_0 hx849_1 hx849_2 hx849_3 hx849_4 hx849_5 hHeld ⊢
         refine pu 2 32 (bl 9 4) ?_
         refine pu 4 34 (bl 9 20) ?_
         refine tk 0 30 (bl 9 21) ?_ hHeld
         refine tk 1 31 (bl 9 23) ?_ hHeld
         refine tk 3 33 (bl 9 31) ?_ hHeld
         refine pu 5 35 (bl 9 63) ?_
         refine pu 6 36 (bl 9 127) ?_
         refine tk 7 37 (bl 9 255) ?_ hHeld
         refine oe 8 38 (bl 9 511) (fun K hK => ?_)
         refine gs Try.func43 #[.agg #[.string a0_0, .slice A0_1 l0_1.length c0_1], .agg #[.string a1_0, .slice (some ad849) l1_1.length c1_1], .int .i64 ((rd_T26 l1_1 x6_2).f4)] ?_
         with_reducible refine (laws_wNearAt.calls k2 a0_0 _ _ l0_1 a1_0 _ _ l1_1 ((rd_T26 l1_1 x6_2).f4) true _ ?side1 ?side2 ?side3 ?side4 A21.out).mono ?_
         (case side1 => exact sc HR0_1)
         (case side2 => exact HC0_1.out)
         (case side3 => exact sc HR1_1)
         (case side4 => exact HC1_1.out)
         rintro e w26 ⟨rfl, hb⟩
         refine ⟨_, rfl, ?_⟩
         have _ := bb (bk BK845) hb
         have _ := bb (bk BK846) hb
         have _ := bs hb
         clear BK845 BK846 HB
         rename_i BK845 BK846 HB
         (try clear hb)
         (try clear hb2)
         (try clear hk)
         (try clear hi)
         refine hK.out _ _ ⟨(blk_cell BK845.out 0).trans rfl, (blk_cell BK845.out 1).trans rfl, (blk_cell BK846.out 0).trans rfl, (blk_cell BK846.out 1).trans rfl, (hc HB hw849_0), (hc HB hw849_1), (hc HB hw849_2), (hc HB hw849_3), (hc HB hw849_4), (hc HB hw849_5)⟩ (fun hHeld => ?_)
         clear hK K
         refine nm 38 ?_
         refine done_ (done_of HT_.out (by kernel_rfl)) ?_
         try go_wp2
         go_ret
         exact ⟨re, bq⟩
        ·replace c22 := Bool.eq_false_iff.mpr c22
         subst c22
         have H1 : (laws_wEver.l1 k2 (wrap64 (x6_2 + 1)) a0_0 l0_1 a1_0 l1_1) = some r := by rw [if_neg (show ¬ (false = true) by decide)] at H; exact H
         clear H
         have H := H1
         clear H1
         have H' := Aside0.mk H
         clear H
         have hnb27 := NB846_845.out
         have hnc27 := NB845_846.out
         obtain ⟨hcz28_0, hcz28_1, hfz28_0, hfz28_1⟩ := zc2 BK846
         try go_wp2
         have _ := ra (blk_drew BK845.out)
         have _ := ra (blk_drew BK846.out)
         have _ := ra (below_drew1 HB.out)
         clear BK845 BK846 HB
         rename_i BK845 BK846 HB
         have p849 : 0 ≤ (x6_2 : Int) := od
         have q849 : x6_2 < (l1_1.length : Int) := od
         obtain ⟨ad849, e849, hx849_0, hx849_1, hx849_2, hx849_3, hx849_4, hx849_5⟩ := at_T26 HR1_1.out x6_2 p849 q849
         have hw849_5 := hx849_5
         have hw849_4 := hx849_4
         have hw849_3 := hx849_3
         have hw849_2 := hx849_2
         have hw849_1 := hx849_1
         have hw849_0 := hx849_0
         cases e849
         replace hx849_0 := hc HB hx849_0
         replace hx849_1 := hc HB hx849_1
         replace hx849_2 := hc HB hx849_2
         replace hx849_3 := hc HB hx849_3
         replace hx849_4 := hc HB hx849_4
         replace hx849_5 := hc HB hx849_5
         replace p849 := eq_true p849
         replace q849 := eq_true q849
         refine start_ (n := 9) (S := fun w' => w'.cell? ⟨gb845, 0, none⟩ = some (.string a0_0) ∧ w'.cell? ⟨gb845, 1, none⟩ = some (.slice A0_1 l0_1.length c0_1) ∧ w'.cell? ⟨gb846, 0, none⟩ = some (.string a1_0) ∧ w'.cell? ⟨gb846, 1, none⟩ = some (.slice (some ad849) l1_1.length c1_1) ∧ w'.cell? (ad849.add ((x6_2).toNat * 6)) = some (.int .i64 ((rd_T26 l1_1 x6_2).f0)) ∧ w'.cell? ⟨(ad849.add ((x6_2).toNat * 6)).block, (ad849.add ((x6_2).toNat * 6)).off + 1, none⟩ = some (.int .i64 ((rd_T26 l1_1 x6_2).f1)) ∧ w'.cell? ⟨(ad849.add ((x6_2).toNat * 6)).block, (ad849.add ((x6_2).toNat * 6)).off + 2, none⟩ = some (.int .i64 ((rd_T26 l1_1 x6_2).f2)) ∧ w'.cell? ⟨(ad849.add ((x6_2).toNat * 6)).block, (ad849.add ((x6_2).toNat * 6)).off + 3, none⟩ = some (.int .i64 ((rd_T26 l1_1 x6_2).f3)) ∧ w'.cell? ⟨(ad849.add ((x6_2).toNat * 6)).block, (ad849.add ((x6_2).toNat * 6)).off + 4, none⟩ = some (.int .i64 ((rd_T26 l1_1 x6_2).f4)) ∧ w'.cell? ⟨(ad849.add ((x6_2).toNat * 6)).block, (ad849.add ((x6_2).toNat * 6)).off + 5, none⟩ = some (.int .i64 ((rd_T26 l1_1 x6_2).f5))) (ds := []) (bl 9 0) (by kernel_rfl) rfl rfl ⟨(blk_cell BK845.out 0).trans rfl, (blk_cell BK845.out 1).trans rfl, (blk_cell BK846.out 0).trans rfl, (blk_cell BK846.out 1).trans rfl, (hc HB hw849_0), (hc HB hw849_1), (hc HB hw849_2), (hc HB hw849_3), (hc HB hw849_4), (hc HB hw849_5)⟩ (fun hHeld => ?_); refine with_tabW laws_wEver.tab9 laws_wEver.bits9 (fun HT_ HW_ => ?_)
         generalize wr.drew = w29 at BK845 BK846 HB hx849_0 hx849_1 hx849_2 hx849_3 hx849_4 hx849_5 hHeld ⊢
         refine pu 2 32 (bl 9 4) ?_
         refine pu 4 34 (bl 9 20) ?_
         refine tk 0 30 (bl 9 21) ?_ hHeld
         refine tk 1 31 (bl 9 23) ?_ hHeld
         refine tk 3 33 (bl 9 31) ?_ hHeld
         refine pu 5 35 (bl 9 63) ?_
         refine pu 6 36 (bl 9 127) ?_
         refine tk 7 37 (bl 9 255) ?_ hHeld
         refine oe 8 38 (bl 9 511) (fun K hK => ?_)
         refine gs Try.func43 #[.agg #[.string a0_0, .slice A0_1 l0_1.length c0_1], .agg #[.string a1_0, .slice (some ad849) l1_1.length c1_1], .int .i64 ((rd_T26 l1_1 x6_2).f4)] ?_
         with_reducible refine (laws_wNearAt.calls k2 a0_0 _ _ l0_1 a1_0 _ _ l1_1 ((rd_T26 l1_1 x6_2).f4) false _ ?side1 ?side2 ?side3 ?side4 A21.out).mono ?_
         (case side1 => exact sc HR0_1)
         (case side2 => exact HC0_1.out)
         (case side3 => exact sc HR1_1)
         (case side4 => exact HC1_1.out)
         rintro e w30 ⟨rfl, hb⟩
         refine ⟨_, rfl, ?_⟩
         have _ := bb (bk BK845) hb
         have _ := bb (bk BK846) hb
         have _ := bs hb
         clear BK845 BK846 HB
         rename_i BK845 BK846 HB
         (try clear hb)
         (try clear hb2)
         (try clear hk)
         (try clear hi)
         refine hK.out _ _ ⟨(blk_cell BK845.out 0).trans rfl, (blk_cell BK845.out 1).trans rfl, (blk_cell BK846.out 0).trans rfl, (blk_cell BK846.out 1).trans rfl, (hc HB hw849_0), (hc HB hw849_1), (hc HB hw849_2), (hc HB hw849_3), (hc HB hw849_4), (hc HB hw849_5)⟩ (fun hHeld => ?_)
         clear hK K
         refine nm 38 ?_
         refine done_ (done_of HT_.out (by kernel_rfl)) ?_
         try go_wp2
         go_roundg k2
         case measure => have := HK1.out; have := HK2.out; omega
         case rel => exact ⟨(wrap64 (x6_2 + 1)), rs, H', ⟨by have := HK1.out; have := HK2.out; omega⟩, ⟨bk BK845⟩, ⟨bk BK846⟩, ⟨bq⟩⟩
       ·rw [if_neg c20] at H
        exact absurd H (by simp)
      ·rw [if_neg c19] at H
       have c19b0 : decide (x6_2 < (l1_1.length : Int)) = false := decide_eq_false c19
       clear c19
       obtain rfl := Option.some.inj H
       have hnb31 := NB846_845.out
       have hnc31 := NB845_846.out
       obtain ⟨hcz32_0, hcz32_1, hfz32_0, hfz32_1⟩ := zc2 BK846
       go_wp2
       go_ret
       exact ⟨re, bq⟩
end Go.Proofs.Ytfoapgcnjnogiaa.PA
