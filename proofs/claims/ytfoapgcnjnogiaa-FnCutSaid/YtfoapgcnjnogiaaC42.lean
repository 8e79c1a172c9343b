/- Contracts of the functions laws_wTube. (Began as a print of the kit's tool.) -/
import Derived.Test.YtfoapgcnjnogiaaPAd
import Derived.Test.YtfoapgcnjnogiaaCx
namespace Go.Proofs.Ytfoapgcnjnogiaa.PA
open Go.RowKit Go.Proofs.YtfoapgcnjnogiaaW.PrintWords Go.Proofs.YtfoapgcnjnogiaaW.PrintLast Go.Proofs.YtfoapgcnjnogiaaW.PrintMore Go.Proofs.Ytfoapgcnjnogiaa.Z
attribute [local go_sem] max2_int min2_int max_two min_two max_three min_three max_four min_four
set_option linter.unusedVariables false
set_option linter.unusedSimpArgs false
attribute [local go_sem high] eqA26
set_option maxHeartbeats 8000000 in
set_option maxRecDepth 100000 in
theorem laws_wTube.calls (k : Nat) (a0_0 : ByteArray) (A0_1 : Option Addr) (c0_1 : Nat) (l0_1 : List (S26)) (a1_0 : ByteArray) (A1_1 : Option Addr) (c1_1 : Nat) (l1_1 : List (S26)) (r : Bool) (w : World) (hr0_1 : Kd.C k26 w A0_1 l0_1.length l0_1) (hc0_1 : l0_1.length ≤ c0_1) (hr1_1 : Kd.C k26 w A1_1 l1_1.length l1_1) (hc1_1 : l1_1.length ≤ c1_1) (h : laws_wTube.f k a0_0 l0_1 a1_0 l1_1 = some r) :
  Calls Try.prog 42 #[.agg #[.string a0_0, .slice A0_1 l0_1.length c0_1], .agg #[.string a1_0, .slice A1_1 l1_1.length c1_1]] w fun e w' => e = .returned (.bool r) ∧ Below w.heap.size w w' := by
 have hu39 := Try.underlying39
 have hu26 := Try.underlying26
 have HR0_1 := Aside0.mk hr0_1
 have HC0_1 := Aside0.mk hc0_1
 clear hr0_1 hc0_1
 have HR1_1 := Aside0.mk hr1_1
 have HC1_1 := Aside0.mk hc1_1
 clear hr1_1 hc1_1
 have HB := ra (Below.refl w.heap.size w)
 have H : (if a0_0.toList = a1_0.toList then (laws_wTube.j0 k ((l0_1.length : Int) != (l1_1.length : Int)) a0_0 l0_1 a1_0 l1_1) else (laws_wTube.j0 k true a0_0 l0_1 a1_0 l1_1)) = some r := h
 clear h
 have HC3 := Aside0.mk H
 clear H
 go_enter Try.func42, Try.ntmps42
 go_upto_region 1 with (first | ((with_reducible refine gate_dst (N := 2) rfl ?_); (try (refine gate_guard (by rfl) ?_; dsimp only)); refine be 2 #[.string a0_0, .slice A0_1 l0_1.length c0_1] 39 ?_; intro gb758 hg w4 hbox hb; have _ := bs hb; have _ := ra (hbox); have _ := bz (w0 := w) hg; have _ := bz (w0 := w) hg; clear HB; rename_i HB BK758 GW758 GE758; clear hb hbox hg) | ((with_reducible refine gate_dst (N := 3) rfl ?_); (try (refine gate_guard (by rfl) ?_; dsimp only)); refine be 3 #[.string a1_0, .slice A1_1 l1_1.length c1_1] 39 ?_; intro gb759 hg w5 hbox hb; have _ := bb (bk BK758) hb; have _ := bs hb; have _ := ra (hbox); have _ := bz (w0 := w) hg; have _ := bz (w0 := w) hg; have _ := bn hg (bk BK758); have _ := bm hg (bk BK758); clear BK758 HB; rename_i BK758 HB BK759 GW759 GE759 NB758_759 NB759_758; clear hb hbox hg))
 repeat (go_quiet (first | ((with_reducible refine gate_dst (N := 2) rfl ?_); (try (refine gate_guard (by rfl) ?_; dsimp only)); refine be 2 #[.string a0_0, .slice A0_1 l0_1.length c0_1] 39 ?_; intro gb758 hg w4 hbox hb; have _ := bs hb; have _ := ra (hbox); have _ := bz (w0 := w) hg; have _ := bz (w0 := w) hg; clear HB; rename_i HB BK758 GW758 GE758; clear hb hbox hg) | ((with_reducible refine gate_dst (N := 3) rfl ?_); (try (refine gate_guard (by rfl) ?_; dsimp only)); refine be 3 #[.string a1_0, .slice A1_1 l1_1.length c1_1] 39 ?_; intro gb759 hg w5 hbox hb; have _ := bb (bk BK758) hb; have _ := bs hb; have _ := ra (hbox); have _ := bz (w0 := w) hg; have _ := bz (w0 := w) hg; have _ := bn hg (bk BK758); have _ := bm hg (bk BK758); clear BK758 HB; rename_i BK758 HB BK759 GW759 GE759 NB758_759 NB759_758; clear hb hbox hg)); go_upto_region 1 with (first | ((with_reducible refine gate_dst (N := 2) rfl ?_); (try (refine gate_guard (by rfl) ?_; dsimp only)); refine be 2 #[.string a0_0, .slice A0_1 l0_1.length c0_1] 39 ?_; intro gb758 hg w4 hbox hb; have _ := bs hb; have _ := ra (hbox); have _ := bz (w0 := w) hg; have _ := bz (w0 := w) hg; clear HB; rename_i HB BK758 GW758 GE758; clear hb hbox hg) | ((with_reducible refine gate_dst (N := 3) rfl ?_); (try (refine gate_guard (by rfl) ?_; dsimp only)); refine be 3 #[.string a1_0, .slice A1_1 l1_1.length c1_1] 39 ?_; intro gb759 hg w5 hbox hb; have _ := bb (bk BK758) hb; have _ := bs hb; have _ := ra (hbox); have _ := bz (w0 := w) hg; have _ := bz (w0 := w) hg; have _ := bn hg (bk BK758); have _ := bm hg (bk BK758); clear BK758 HB; rename_i BK758 HB BK759 GW759 GE759 NB758_759 NB759_758; clear hb hbox hg)))
 (try simp only [Act.put, List.setIfInBounds_toArray, List.set_cons_zero, List.set_cons_succ])
 go_cut [19] (fun v19 wc => ∃ (kq : Nat) (x19_2 : Bool), v19 = .bool x19_2 ∧ Aside0 (laws_wTube.j0 kq x19_2 a0_0 l0_1 a1_0 l1_1 = some r) ∧ Aside0 (kq ≤ k) ∧ Aside0 (wc.heap[gb758]? = some (.cells #[.string a0_0, (.slice A0_1 l0_1.length c0_1)] 39 (0, 0))) ∧ Aside0 (wc.heap[gb759]? = some (.cells #[.string a1_0, (.slice A1_1 l1_1.length c1_1)] 39 (0, 0))) ∧ Aside0 (Below w.heap.size w wc))
 case first =>
  have H := HC3.out
  clear HC3
  by_cases c6 : a0_0.toList = a1_0.toList
  ·rw [if_pos c6] at H
   have c6b0 : (a0_0.toList == a1_0.toList) = true := beq_iff_eq.mpr c6
   have c6b1 : (a0_0.toList != a1_0.toList) = false := bne_eq_false_iff_eq.mpr c6
   clear c6
   (first | rw [c6b0] | (simp only [i64_w, i32_w]; rw [c6b0]) | skip)
   have H' := Aside0.mk H
   clear H
   have hnb7 := NB758_759.out
   have hnc7 := NB759_758.out
   obtain ⟨hcz8_0, hcz8_1, hfz8_0, hfz8_1⟩ := zc2 BK758
   obtain ⟨hcz9_0, hcz9_1, hfz9_0, hfz9_1⟩ := zc2 BK759
   go_wp2
   repeat (go_quiet (fail); try go_wp2)
   go_meet
   case rel => exact ⟨_, (((l0_1.length : Int) != (l1_1.length : Int))), rs, H', ⟨by first | omega | exact Nat.le_refl _⟩, ⟨bk BK758⟩, ⟨bk BK759⟩, ⟨bq⟩⟩
  ·rw [if_neg c6] at H
   have c6b0 : (a0_0.toList == a1_0.toList) = false := beq_eq_false_iff_ne.mpr c6
   have c6b1 : (a0_0.toList != a1_0.toList) = true := bne_iff_ne.mpr c6
   (first | rw [c6b0] | (simp only [i64_w, i32_w]; rw [c6b0]) | skip)
   have H' := Aside0.mk H
   clear H
   have hnb10 := NB758_759.out
   have hnc10 := NB759_758.out
   obtain ⟨hcz11_0, hcz11_1, hfz11_0, hfz11_1⟩ := zc2 BK758
   obtain ⟨hcz12_0, hcz12_1, hfz12_0, hfz12_1⟩ := zc2 BK759
   go_wp2
   repeat (go_quiet (fail); try go_wp2)
   go_meet
   case rel => exact ⟨_, (true), rs, H', ⟨by first | omega | exact Nat.le_refl _⟩, ⟨bk BK758⟩, ⟨bk BK759⟩, ⟨bq⟩⟩
 case rest =>
  clear HC3
  try clear c6
  try clear c6b0
  try clear c6b1
  try clear hcz11_0
  try clear hcz11_1
  try clear hcz12_0
  try clear hcz12_1
  try clear hcz8_0
  try clear hcz8_1
  try clear hcz9_0
  try clear hcz9_1
  try clear hfz11_0
  try clear hfz11_1
  try clear hfz12_0
  try clear hfz12_1
  try clear hfz8_0
  try clear hfz8_1
  try clear hfz9_0
  try clear hfz9_1
  obtain ⟨kq, x19_2, rfl, HA, HJ2, BK758, BK759, HB⟩ := hcut
  cases kq with
  | zero => exact absurd HA.out (by simp [laws_wTube.j0])
  | succ kj2 =>
   have H := HA.out
   clear HA
   simp only [laws_wTube.j0] at H
   by_cases c13 : x19_2 = true
   ·subst c13
    replace H := it H rfl
    obtain rfl := Option.some.inj H
    go_wp2
    repeat (go_quiet (fail); try go_wp2)
    go_ret
    exact ⟨re, bq⟩
   ·replace c13 := Bool.eq_false_iff.mpr c13
    subst c13
    have H1 : (laws_wTube.l0 kj2 0 a0_0 l0_1 a1_0 l1_1) = some r := by rw [if_neg (show ¬ (false = true) by decide)] at H; exact H
    clear H
    have H := H1
    clear H1
    have H' := Aside0.mk H
    clear H
    go_wp2
    repeat (go_quiet (fail); try go_wp2)
    go_loopg [5] kj2 (fun kq v5 w' => ∃ (x5_2 : Int), v5 = .int .i64 x5_2 ∧ Aside0 (laws_wTube.l0 kq x5_2 a0_0 l0_1 a1_0 l1_1 = some r) ∧ Aside0 (kq ≤ kj2) ∧ Aside0 (w'.heap[gb758]? = some (.cells #[.string a0_0, (.slice A0_1 l0_1.length c0_1)] 39 (0, 0))) ∧ Aside0 (w'.heap[gb759]? = some (.cells #[.string a1_0, (.slice A1_1 l1_1.length c1_1)] 39 (0, 0))) ∧ Aside0 (Below w.heap.size w w'))
    case atStart => exact ⟨(0), rs, H', ⟨Nat.le_refl _⟩, ⟨bk BK758⟩, ⟨bk BK759⟩, ⟨bq⟩⟩
    case round =>
     clear H'
     try clear c6
     try clear c6b0
     try clear c6b1
     try clear c13
     try clear hcz11_0
     try clear hcz11_1
     try clear hcz12_0
     try clear hcz12_1
     try clear hcz8_0
     try clear hcz8_1
     try clear hcz9_0
     try clear hcz9_1
     try clear hfz11_0
     try clear hfz11_1
     try clear hfz12_0
     try clear hfz12_1
     try clear hfz8_0
     try clear hfz8_1
     try clear hfz9_0
     try clear hfz9_1
     obtain ⟨x5_2, rfl, HA, HK2, BK758, BK759, HB⟩ := hrel
     cases gk with
     | zero => exact absurd HA.out (by simp [laws_wTube.l0])
     | succ k2 =>
      have H := HA.out
      clear HA
      simp only [laws_wTube.l0] at H
      by_cases c14 : x5_2 < (l0_1.length : Int)
      ·rw [if_pos c14] at H
       have c14b0 : decide (x5_2 < (l0_1.length : Int)) = true := decide_eq_true c14
       clear c14
       by_cases c15 : 0 ≤ x5_2
       ·rw [if_pos c15] at H
        have c15b0 : decide (0 ≤ x5_2) = true := decide_eq_true c15
        clear c15
        by_cases c16 : x5_2 < (l1_1.length : Int)
        ·rw [if_pos c16] at H
         have c16b0 : decide (x5_2 < (l1_1.length : Int)) = true := decide_eq_true c16
         clear c16
         by_cases c17 : (!(((rd_T26 l0_1 x5_2).f0) == ((rd_T26 l1_1 x5_2).f0)) || (!(((rd_T26 l0_1 x5_2).f1) == ((rd_T26 l1_1 x5_2).f1)) || (!(((rd_T26 l0_1 x5_2).f2) == ((rd_T26 l1_1 x5_2).f2)) || (!(((rd_T26 l0_1 x5_2).f3) == ((rd_T26 l1_1 x5_2).f3)) || (!(((rd_T26 l0_1 x5_2).f4) == ((rd_T26 l1_1 x5_2).f4)) || (!(((rd_T26 l0_1 x5_2).f5) == ((rd_T26 l1_1 x5_2).f5)))))))) = true
         ·rw [if_pos c17] at H
          have c17b0 : (!(((rd_T26 l0_1 x5_2).f0) == ((rd_T26 l1_1 x5_2).f0)) || (!(((rd_T26 l0_1 x5_2).f1) == ((rd_T26 l1_1 x5_2).f1)) || (!(((rd_T26 l0_1 x5_2).f2) == ((rd_T26 l1_1 x5_2).f2)) || (!(((rd_T26 l0_1 x5_2).f3) == ((rd_T26 l1_1 x5_2).f3)) || (!(((rd_T26 l0_1 x5_2).f4) == ((rd_T26 l1_1 x5_2).f4)) || (!(((rd_T26 l0_1 x5_2).f5) == ((rd_T26 l1_1 x5_2).f5)))))))) = true := c17
          clear c17
          obtain rfl := Option.some.inj H
          have hnb18 := NB758_759.out
          have hnc18 := NB759_758.out
          obtain ⟨hcz19_0, hcz19_1, hfz19_0, hfz19_1⟩ := zc2 BK758
          have p760 : 0 ≤ (x5_2 : Int) := od
          have q760 : x5_2 < (l0_1.length : Int) := od
          obtain ⟨ad760, e760, hx760_0, hx760_1, hx760_2, hx760_3, hx760_4, hx760_5⟩ := at_T26 HR0_1.out x5_2 p760 q760
          cases e760
          replace hx760_0 := hc HB hx760_0
          replace hx760_1 := hc HB hx760_1
          replace hx760_2 := hc HB hx760_2
          replace hx760_3 := hc HB hx760_3
          replace hx760_4 := hc HB hx760_4
          replace hx760_5 := hc HB hx760_5
          replace p760 := eq_true p760
          replace q760 := eq_true q760
          obtain ⟨hcz20_0, hcz20_1, hfz20_0, hfz20_1⟩ := zc2 BK759
          have p761 : 0 ≤ (x5_2 : Int) := od
          have q761 : x5_2 < (l1_1.length : Int) := od
          obtain ⟨ad761, e761, hx761_0, hx761_1, hx761_2, hx761_3, hx761_4, hx761_5⟩ := at_T26 HR1_1.out x5_2 p761 q761
          cases e761
          replace hx761_0 := hc HB hx761_0
          replace hx761_1 := hc HB hx761_1
          replace hx761_2 := hc HB hx761_2
          replace hx761_3 := hc HB hx761_3
          replace hx761_4 := hc HB hx761_4
          replace hx761_5 := hc HB hx761_5
          replace p761 := eq_true p761
          replace q761 := eq_true q761
          go_wp2
          repeat (go_quiet (fail); try go_wp2)
          go_ret
          exact ⟨re, bq⟩
         ·rw [if_neg c17] at H
          have c17b0 : (!(((rd_T26 l0_1 x5_2).f0) == ((rd_T26 l1_1 x5_2).f0)) || (!(((rd_T26 l0_1 x5_2).f1) == ((rd_T26 l1_1 x5_2).f1)) || (!(((rd_T26 l0_1 x5_2).f2) == ((rd_T26 l1_1 x5_2).f2)) || (!(((rd_T26 l0_1 x5_2).f3) == ((rd_T26 l1_1 x5_2).f3)) || (!(((rd_T26 l0_1 x5_2).f4) == ((rd_T26 l1_1 x5_2).f4)) || (!(((rd_T26 l0_1 x5_2).f5) == ((rd_T26 l1_1 x5_2).f5)))))))) = false := by simpa using c17
          clear c17
          have H' := Aside0.mk H
          clear H
          have hnb21 := NB758_759.out
          have hnc21 := NB759_758.out
          obtain ⟨hcz22_0, hcz22_1, hfz22_0, hfz22_1⟩ := zc2 BK758
          have p760 : 0 ≤ (x5_2 : Int) := od
          have q760 : x5_2 < (l0_1.length : Int) := od
          obtain ⟨ad760, e760, hx760_0, hx760_1, hx760_2, hx760_3, hx760_4, hx760_5⟩ := at_T26 HR0_1.out x5_2 p760 q760
          cases e760
          replace hx760_0 := hc HB hx760_0
          replace hx760_1 := hc HB hx760_1
          replace hx760_2 := hc HB hx760_2
          replace hx760_3 := hc HB hx760_3
          replace hx760_4 := hc HB hx760_4
          replace hx760_5 := hc HB hx760_5
          replace p760 := eq_true p760
          replace q760 := eq_true q760
          obtain ⟨hcz23_0, hcz23_1, hfz23_0, hfz23_1⟩ := zc2 BK759
          have p761 : 0 ≤ (x5_2 : Int) := od
          have q761 : x5_2 < (l1_1.length : Int) := od
          obtain ⟨ad761, e761, hx761_0, hx761_1, hx761_2, hx761_3, hx761_4, hx761_5⟩ := at_T26 HR1_1.out x5_2 p761 q761
          cases e761
          replace hx761_0 := hc HB hx761_0
          replace hx761_1 := hc HB hx761_1
          replace hx761_2 := hc HB hx761_2
          replace hx761_3 := hc HB hx761_3
          replace hx761_4 := hc HB hx761_4
          replace hx761_5 := hc HB hx761_5
          replace p761 := eq_true p761
          replace q761 := eq_true q761
          go_wp2
          repeat (go_quiet (fail); try go_wp2)
          go_roundg k2
          case measure => have := HJ2.out; have := HK2.out; omega
          case rel => exact ⟨(wrap64 (x5_2 + 1)), rs, H', ⟨by have := HJ2.out; have := HK2.out; omega⟩, ⟨bk BK758⟩, ⟨bk BK759⟩, ⟨bq⟩⟩
        ·rw [if_neg c16] at H
         exact absurd H (by simp)
       ·rw [if_neg c15] at H
        exact absurd H (by simp)
      ·rw [if_neg c14] at H
       have c14b0 : decide (x5_2 < (l0_1.length : Int)) = false := decide_eq_false c14
       clear c14
       obtain rfl := Option.some.inj H
       have hnb24 := NB758_759.out
       have hnc24 := NB759_758.out
       obtain ⟨hcz25_0, hcz25_1, hfz25_0, hfz25_1⟩ := zc2 BK758
       go_wp2
       repeat (go_quiet (fail); try go_wp2)
       go_ret
       exact ⟨re, bq⟩
end Go.Proofs.Ytfoapgcnjnogiaa.PA
