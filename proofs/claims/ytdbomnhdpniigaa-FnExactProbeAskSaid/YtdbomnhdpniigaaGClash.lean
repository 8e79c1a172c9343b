/- Contracts of the functions laws_eqProbeClash, laws_eqProbeClashS, laws_markProbeClashS, laws_heldProbeClashS. (Began as a print of the kit's tool.) -/
import Derived.Test.YtdbomnhdpniigaaPAd
import Derived.Test.YtdbomnhdpniigaaCx
import Derived.Test.YtdbomnhdpniigaaGMarks
namespace Go.Proofs.Ytdbomnhdpniigaa.PA
open Go.RowKit Go.Proofs.YtdbomnhdpniigaaW.PrintWords Go.Proofs.YtdbomnhdpniigaaW.PrintLast Go.Proofs.YtdbomnhdpniigaaW.PrintMore Go.Proofs.Ytdbomnhdpniigaa.Z
attribute [local go_sem] max2_int min2_int max_two min_two max_three min_three max_four min_four
set_option linter.unusedVariables false
set_option linter.unusedSimpArgs false
set_option maxHeartbeats 8000000 in
set_option maxRecDepth 100000 in
theorem laws_eqProbeClash.calls (a0_0 : ByteArray) (a0_1 : ByteArray) (a0_2 : Int) (a0_3 : Int) (a0_4 : Int) (a1_0 : ByteArray) (a1_1 : ByteArray) (a1_2 : Int) (a1_3 : Int) (a1_4 : Int) (r : Bool) (w : World) (h : laws_eqProbeClash.f a0_0 a0_1 a0_2 a0_3 a0_4 a1_0 a1_1 a1_2 a1_3 a1_4 = some r) :
  Calls Try.prog 47 #[.agg #[.string a0_0, .string a0_1, .int .i64 a0_2, .int .i64 a0_3, .int .i64 a0_4], .agg #[.string a1_0, .string a1_1, .int .i64 a1_2, .int .i64 a1_3, .int .i64 a1_4]] w fun e w' => e = .returned (.bool r) ∧ Below w.heap.size w w' := by
 have hu49 := Try.underlying49
 have HB := ra (Below.refl w.heap.size w)
 have H : (if a0_0.toList = a1_0.toList then (if a0_1.toList = a1_1.toList then (if a0_2 = a1_2 then (if a0_3 = a1_3 then (if a0_4 = a1_4 then (some true) else (some false)) else (some false)) else (some false)) else (some false)) else (some false)) = some r := h
 clear h
 by_cases c3 : a0_0.toList = a1_0.toList
 ·rw [if_pos c3] at H
  have c3b0 : (a0_0.toList == a1_0.toList) = true := beq_iff_eq.mpr c3
  have c3b1 : (a0_0.toList != a1_0.toList) = false := bne_eq_false_iff_eq.mpr c3
  clear c3
  by_cases c4 : a0_1.toList = a1_1.toList
  ·rw [if_pos c4] at H
   have c4b0 : (a0_1.toList == a1_1.toList) = true := beq_iff_eq.mpr c4
   have c4b1 : (a0_1.toList != a1_1.toList) = false := bne_eq_false_iff_eq.mpr c4
   clear c4
   by_cases c5 : a0_2 = a1_2
   ·rw [if_pos c5] at H
    have c5b0 : (a0_2 == a1_2) = true := beq_iff_eq.mpr c5
    have c5b1 : (a0_2 != a1_2) = false := bne_eq_false_iff_eq.mpr c5
    clear c5
    by_cases c6 : a0_3 = a1_3
    ·rw [if_pos c6] at H
     have c6b0 : (a0_3 == a1_3) = true := beq_iff_eq.mpr c6
     have c6b1 : (a0_3 != a1_3) = false := bne_eq_false_iff_eq.mpr c6
     clear c6
     by_cases c7 : a0_4 = a1_4
     ·rw [if_pos c7] at H
      have c7b0 : (a0_4 == a1_4) = true := beq_iff_eq.mpr c7
      have c7b1 : (a0_4 != a1_4) = false := bne_eq_false_iff_eq.mpr c7
      clear c7
      obtain rfl := Option.some.inj H
      go_enter Try.func47, Try.ntmps47
      go_wp2_with (first | ((with_reducible refine gate_dst (N := 2) rfl ?_); refine be 2 #[.string a0_0, .string a0_1, .int .i64 a0_2, .int .i64 a0_3, .int .i64 a0_4] 49 ?_; intro gb101 hg w8 hbox hb; have _ := bs hb; have _ := ra (hbox); have _ := bz (w0 := w) hg; have _ := bz (w0 := w) hg; clear HB; rename_i HB BK101 GW101 GE101; clear hb hbox hg) | ((with_reducible refine gate_dst (N := 3) rfl ?_); refine be 3 #[.string a1_0, .string a1_1, .int .i64 a1_2, .int .i64 a1_3, .int .i64 a1_4] 49 ?_; intro gb102 hg w9 hbox hb; have _ := bb (bk BK101) hb; have _ := bs hb; have _ := ra (hbox); have _ := bz (w0 := w) hg; have _ := bz (w0 := w) hg; have _ := bn hg (bk BK101); have _ := bm hg (bk BK101); clear BK101 HB; rename_i BK101 HB BK102 GW102 GE102 NB101_102 NB102_101; clear hb hbox hg; have hnb10 := NB101_102.out; have hnc10 := NB102_101.out; obtain ⟨hcz11_0, hcz11_1, hcz11_2, hcz11_3, hcz11_4, hfz11_0, hfz11_1, hfz11_2, hfz11_3, hfz11_4⟩ := zc5 BK101; obtain ⟨hcz12_0, hcz12_1, hcz12_2, hcz12_3, hcz12_4, hfz12_0, hfz12_1, hfz12_2, hfz12_3, hfz12_4⟩ := zc5 BK102))
      go_ret
      exact ⟨re, bq⟩
     ·rw [if_neg c7] at H
      have c7b0 : (a0_4 == a1_4) = false := beq_eq_false_iff_ne.mpr c7
      have c7b1 : (a0_4 != a1_4) = true := bne_iff_ne.mpr c7
      obtain rfl := Option.some.inj H
      go_enter Try.func47, Try.ntmps47
      go_wp2_with (first | ((with_reducible refine gate_dst (N := 2) rfl ?_); refine be 2 #[.string a0_0, .string a0_1, .int .i64 a0_2, .int .i64 a0_3, .int .i64 a0_4] 49 ?_; intro gb101 hg w13 hbox hb; have _ := bs hb; have _ := ra (hbox); have _ := bz (w0 := w) hg; have _ := bz (w0 := w) hg; clear HB; rename_i HB BK101 GW101 GE101; clear hb hbox hg) | ((with_reducible refine gate_dst (N := 3) rfl ?_); refine be 3 #[.string a1_0, .string a1_1, .int .i64 a1_2, .int .i64 a1_3, .int .i64 a1_4] 49 ?_; intro gb102 hg w14 hbox hb; have _ := bb (bk BK101) hb; have _ := bs hb; have _ := ra (hbox); have _ := bz (w0 := w) hg; have _ := bz (w0 := w) hg; have _ := bn hg (bk BK101); have _ := bm hg (bk BK101); clear BK101 HB; rename_i BK101 HB BK102 GW102 GE102 NB101_102 NB102_101; clear hb hbox hg; have hnb15 := NB101_102.out; have hnc15 := NB102_101.out; obtain ⟨hcz16_0, hcz16_1, hcz16_2, hcz16_3, hcz16_4, hfz16_0, hfz16_1, hfz16_2, hfz16_3, hfz16_4⟩ := zc5 BK101; obtain ⟨hcz17_0, hcz17_1, hcz17_2, hcz17_3, hcz17_4, hfz17_0, hfz17_1, hfz17_2, hfz17_3, hfz17_4⟩ := zc5 BK102))
      go_ret
      exact ⟨re, bq⟩
    ·rw [if_neg c6] at H
     have c6b0 : (a0_3 == a1_3) = false := beq_eq_false_iff_ne.mpr c6
     have c6b1 : (a0_3 != a1_3) = true := bne_iff_ne.mpr c6
     obtain rfl := Option.some.inj H
     go_enter Try.func47, Try.ntmps47
     go_wp2_with (first | ((with_reducible refine gate_dst (N := 2) rfl ?_); refine be 2 #[.string a0_0, .string a0_1, .int .i64 a0_2, .int .i64 a0_3, .int .i64 a0_4] 49 ?_; intro gb101 hg w18 hbox hb; have _ := bs hb; have _ := ra (hbox); have _ := bz (w0 := w) hg; have _ := bz (w0 := w) hg; clear HB; rename_i HB BK101 GW101 GE101; clear hb hbox hg) | ((with_reducible refine gate_dst (N := 3) rfl ?_); refine be 3 #[.string a1_0, .string a1_1, .int .i64 a1_2, .int .i64 a1_3, .int .i64 a1_4] 49 ?_; intro gb102 hg w19 hbox hb; have _ := bb (bk BK101) hb; have _ := bs hb; have _ := ra (hbox); have _ := bz (w0 := w) hg; have _ := bz (w0 := w) hg; have _ := bn hg (bk BK101); have _ := bm hg (bk BK101); clear BK101 HB; rename_i BK101 HB BK102 GW102 GE102 NB101_102 NB102_101; clear hb hbox hg; have hnb20 := NB101_102.out; have hnc20 := NB102_101.out; obtain ⟨hcz21_0, hcz21_1, hcz21_2, hcz21_3, hcz21_4, hfz21_0, hfz21_1, hfz21_2, hfz21_3, hfz21_4⟩ := zc5 BK101; obtain ⟨hcz22_0, hcz22_1, hcz22_2, hcz22_3, hcz22_4, hfz22_0, hfz22_1, hfz22_2, hfz22_3, hfz22_4⟩ := zc5 BK102))
     go_ret
     exact ⟨re, bq⟩
   ·rw [if_neg c5] at H
    have c5b0 : (a0_2 == a1_2) = false := beq_eq_false_iff_ne.mpr c5
    have c5b1 : (a0_2 != a1_2) = true := bne_iff_ne.mpr c5
    obtain rfl := Option.some.inj H
    go_enter Try.func47, Try.ntmps47
    go_wp2_with (first | ((with_reducible refine gate_dst (N := 2) rfl ?_); refine be 2 #[.string a0_0, .string a0_1, .int .i64 a0_2, .int .i64 a0_3, .int .i64 a0_4] 49 ?_; intro gb101 hg w23 hbox hb; have _ := bs hb; have _ := ra (hbox); have _ := bz (w0 := w) hg; have _ := bz (w0 := w) hg; clear HB; rename_i HB BK101 GW101 GE101; clear hb hbox hg) | ((with_reducible refine gate_dst (N := 3) rfl ?_); refine be 3 #[.string a1_0, .string a1_1, .int .i64 a1_2, .int .i64 a1_3, .int .i64 a1_4] 49 ?_; intro gb102 hg w24 hbox hb; have _ := bb (bk BK101) hb; have _ := bs hb; have _ := ra (hbox); have _ := bz (w0 := w) hg; have _ := bz (w0 := w) hg; have _ := bn hg (bk BK101); have _ := bm hg (bk BK101); clear BK101 HB; rename_i BK101 HB BK102 GW102 GE102 NB101_102 NB102_101; clear hb hbox hg; have hnb25 := NB101_102.out; have hnc25 := NB102_101.out; obtain ⟨hcz26_0, hcz26_1, hcz26_2, hcz26_3, hcz26_4, hfz26_0, hfz26_1, hfz26_2, hfz26_3, hfz26_4⟩ := zc5 BK101; obtain ⟨hcz27_0, hcz27_1, hcz27_2, hcz27_3, hcz27_4, hfz27_0, hfz27_1, hfz27_2, hfz27_3, hfz27_4⟩ := zc5 BK102))
    go_ret
    exact ⟨re, bq⟩
  ·rw [if_neg c4] at H
   have c4b0 : (a0_1.toList == a1_1.toList) = false := beq_eq_false_iff_ne.mpr c4
   have c4b1 : (a0_1.toList != a1_1.toList) = true := bne_iff_ne.mpr c4
   obtain rfl := Option.some.inj H
   go_enter Try.func47, Try.ntmps47
   go_wp2_with (first | ((with_reducible refine gate_dst (N := 2) rfl ?_); refine be 2 #[.string a0_0, .string a0_1, .int .i64 a0_2, .int .i64 a0_3, .int .i64 a0_4] 49 ?_; intro gb101 hg w28 hbox hb; have _ := bs hb; have _ := ra (hbox); have _ := bz (w0 := w) hg; have _ := bz (w0 := w) hg; clear HB; rename_i HB BK101 GW101 GE101; clear hb hbox hg) | ((with_reducible refine gate_dst (N := 3) rfl ?_); refine be 3 #[.string a1_0, .string a1_1, .int .i64 a1_2, .int .i64 a1_3, .int .i64 a1_4] 49 ?_; intro gb102 hg w29 hbox hb; have _ := bb (bk BK101) hb; have _ := bs hb; have _ := ra (hbox); have _ := bz (w0 := w) hg; have _ := bz (w0 := w) hg; have _ := bn hg (bk BK101); have _ := bm hg (bk BK101); clear BK101 HB; rename_i BK101 HB BK102 GW102 GE102 NB101_102 NB102_101; clear hb hbox hg; have hnb30 := NB101_102.out; have hnc30 := NB102_101.out; obtain ⟨hcz31_0, hcz31_1, hcz31_2, hcz31_3, hcz31_4, hfz31_0, hfz31_1, hfz31_2, hfz31_3, hfz31_4⟩ := zc5 BK101; obtain ⟨hcz32_0, hcz32_1, hcz32_2, hcz32_3, hcz32_4, hfz32_0, hfz32_1, hfz32_2, hfz32_3, hfz32_4⟩ := zc5 BK102))
   go_ret
   exact ⟨re, bq⟩
 ·rw [if_neg c3] at H
  have c3b0 : (a0_0.toList == a1_0.toList) = false := beq_eq_false_iff_ne.mpr c3
  have c3b1 : (a0_0.toList != a1_0.toList) = true := bne_iff_ne.mpr c3
  obtain rfl := Option.some.inj H
  go_enter Try.func47, Try.ntmps47
  go_wp2_with (first | ((with_reducible refine gate_dst (N := 2) rfl ?_); refine be 2 #[.string a0_0, .string a0_1, .int .i64 a0_2, .int .i64 a0_3, .int .i64 a0_4] 49 ?_; intro gb101 hg w33 hbox hb; have _ := bs hb; have _ := ra (hbox); have _ := bz (w0 := w) hg; have _ := bz (w0 := w) hg; clear HB; rename_i HB BK101 GW101 GE101; clear hb hbox hg) | ((with_reducible refine gate_dst (N := 3) rfl ?_); refine be 3 #[.string a1_0, .string a1_1, .int .i64 a1_2, .int .i64 a1_3, .int .i64 a1_4] 49 ?_; intro gb102 hg w34 hbox hb; have _ := bb (bk BK101) hb; have _ := bs hb; have _ := ra (hbox); have _ := bz (w0 := w) hg; have _ := bz (w0 := w) hg; have _ := bn hg (bk BK101); have _ := bm hg (bk BK101); clear BK101 HB; rename_i BK101 HB BK102 GW102 GE102 NB101_102 NB102_101; clear hb hbox hg; have hnb35 := NB101_102.out; have hnc35 := NB102_101.out; obtain ⟨hcz36_0, hcz36_1, hcz36_2, hcz36_3, hcz36_4, hfz36_0, hfz36_1, hfz36_2, hfz36_3, hfz36_4⟩ := zc5 BK101; obtain ⟨hcz37_0, hcz37_1, hcz37_2, hcz37_3, hcz37_4, hfz37_0, hfz37_1, hfz37_2, hfz37_3, hfz37_4⟩ := zc5 BK102))
  go_ret
  exact ⟨re, bq⟩
def laws_eqProbeClashS.T6 : Bool × List (List Nat × List Nat) := (true, [([], []), ([], []), ([0, 1], [0, 1]), ([2], [2]), ([], []), ([], []), ([4, 5], [4, 5]), ([6], [6]), ([3, 7], [3, 7]), ([8], [8])])
def laws_eqProbeClashS.B6 : List Nat := [0, 0, 3, 7, 0, 0, 48, 112, 255, 511]
theorem laws_eqProbeClashS.tab6 : rtab .any (opsOf Try.f13 6) = laws_eqProbeClashS.T6 := by kernel_rfl
theorem laws_eqProbeClashS.bits6 : waitsOk laws_eqProbeClashS.T6.2 laws_eqProbeClashS.B6 = true := by kernel_rfl
set_option maxHeartbeats 8000000 in
set_option maxRecDepth 100000 in
theorem laws_eqProbeClashS.calls (k : Nat) (A0 : Option Addr) (c0 : Nat) (l0 : List (S49)) (A1 : Option Addr) (c1 : Nat) (l1 : List (S49)) (r : Bool) (w : World) (hr0 : Kd.C k49 w A0 l0.length l0) (hc0 : l0.length ≤ c0) (hr1 : Kd.C k49 w A1 l1.length l1) (hc1 : l1.length ≤ c1) (h : laws_eqProbeClashS.f k l0 l1 = some r) :
  Calls Try.prog 13 #[.slice A0 l0.length c0, .slice A1 l1.length c1] w fun e w' => e = .returned (.bool r) ∧ Below w.heap.size w w' := by
 have hu49 := Try.underlying49
 have HR0 := Aside0.mk hr0
 have HC0 := Aside0.mk hc0
 clear hr0 hc0
 have HR1 := Aside0.mk hr1
 have HC1 := Aside0.mk hc1
 clear hr1 hc1
 have HB := ra (Below.refl w.heap.size w)
 have H : (if (l0.length : Int) = (l1.length : Int) then (laws_eqProbeClashS.l0 k l0 l1 0) else (some false)) = some r := h
 clear h
 by_cases c3 : (l0.length : Int) = (l1.length : Int)
 ·rw [if_pos c3] at H
  have c3b0 : ((l0.length : Int) == (l1.length : Int)) = true := beq_iff_eq.mpr c3
  have c3b1 : ((l0.length : Int) != (l1.length : Int)) = false := bne_eq_false_iff_eq.mpr c3
  have c3b2 : (l0.length == l1.length) = true := by first | simpa using c3 | (simp at c3 ⊢; omega)
  clear c3
  have H' := Aside0.mk H
  clear H
  go_enter Try.func13, Try.ntmps13
  go_wp2
  go_loopg [5] k (fun kq v5 w' => ∃ (x5_1 : Int), v5 = .int .i64 x5_1 ∧ Aside0 (laws_eqProbeClashS.l0 kq l0 l1 x5_1 = some r) ∧ Aside0 (kq ≤ k) ∧ Aside0 (Below w.heap.size w w'))
  case atStart => exact ⟨(0), rs, H', ⟨Nat.le_refl _⟩, ⟨bq⟩⟩
  case round =>
   clear H'
   try clear c1
   try clear c3
   try clear c3b0
   try clear c3b1
   try clear c3b2
   obtain ⟨x5_1, rfl, HA, HK1, HB⟩ := hrel
   cases gk with
   | zero => exact absurd HA.out (by simp [laws_eqProbeClashS.l0])
   | succ k1 =>
    have H := HA.out
    clear HA
    simp only [laws_eqProbeClashS.l0] at H
    by_cases c4 : x5_1 < (l0.length : Int)
    ·rw [if_pos c4] at H
     have c4b0 : decide (x5_1 < (l0.length : Int)) = true := decide_eq_true c4
     clear c4
     by_cases c5 : 0 ≤ x5_1
     ·rw [if_pos c5] at H
      have c5b0 : decide (0 ≤ x5_1) = true := decide_eq_true c5
      clear c5
      by_cases c6 : x5_1 < (l1.length : Int)
      ·rw [if_pos c6] at H
       have c6b0 : decide (x5_1 < (l1.length : Int)) = true := decide_eq_true c6
       clear c6
       obtain ⟨t105, A7, H⟩ := bo H
       by_cases c8 : t105 = true
       ·subst c8
        replace H := it H rfl
        have H' := Aside0.mk H
        clear H
        try go_wp2
        have _ := ra (below_drew1 HB.out)
        clear HB
        rename_i HB
        have p103 : 0 ≤ (x5_1 : Int) := od
        have q103 : x5_1 < (l0.length : Int) := od
        obtain ⟨ad103, e103, hx103_0, hx103_1, hx103_2, hx103_3, hx103_4⟩ := at_T49 HR0.out x5_1 p103 q103
        have hw103_4 := hx103_4
        have hw103_3 := hx103_3
        have hw103_2 := hx103_2
        have hw103_1 := hx103_1
        have hw103_0 := hx103_0
        cases e103
        replace hx103_0 := hc HB hx103_0
        replace hx103_1 := hc HB hx103_1
        replace hx103_2 := hc HB hx103_2
        replace hx103_3 := hc HB hx103_3
        replace hx103_4 := hc HB hx103_4
        replace p103 := eq_true p103
        replace q103 := eq_true q103
        have p104 : 0 ≤ (x5_1 : Int) := od
        have q104 : x5_1 < (l1.length : Int) := od
        obtain ⟨ad104, e104, hx104_0, hx104_1, hx104_2, hx104_3, hx104_4⟩ := at_T49 HR1.out x5_1 p104 q104
        have hw104_4 := hx104_4
        have hw104_3 := hx104_3
        have hw104_2 := hx104_2
        have hw104_1 := hx104_1
        have hw104_0 := hx104_0
        cases e104
        replace hx104_0 := hc HB hx104_0
        replace hx104_1 := hc HB hx104_1
        replace hx104_2 := hc HB hx104_2
        replace hx104_3 := hc HB hx104_3
        replace hx104_4 := hc HB hx104_4
        replace p104 := eq_true p104
        replace q104 := eq_true q104
        refine start_ (n := 10) (S := fun w' => w'.cell? (ad103.add ((x5_1).toNat * 5)) = some (.string ((rd_T49 l0 x5_1).f0)) ∧ w'.cell? ⟨(ad103.add ((x5_1).toNat * 5)).block, (ad103.add ((x5_1).toNat * 5)).off + 1, none⟩ = some (.string ((rd_T49 l0 x5_1).f1)) ∧ w'.cell? ⟨(ad103.add ((x5_1).toNat * 5)).block, (ad103.add ((x5_1).toNat * 5)).off + 2, none⟩ = some (.int .i64 ((rd_T49 l0 x5_1).f2)) ∧ w'.cell? ⟨(ad103.add ((x5_1).toNat * 5)).block, (ad103.add ((x5_1).toNat * 5)).off + 3, none⟩ = some (.int .i64 ((rd_T49 l0 x5_1).f3)) ∧ w'.cell? ⟨(ad103.add ((x5_1).toNat * 5)).block, (ad103.add ((x5_1).toNat * 5)).off + 4, none⟩ = some (.int .i64 ((rd_T49 l0 x5_1).f4)) ∧ w'.cell? (ad104.add ((x5_1).toNat * 5)) = some (.string ((rd_T49 l1 x5_1).f0)) ∧ w'.cell? ⟨(ad104.add ((x5_1).toNat * 5)).block, (ad104.add ((x5_1).toNat * 5)).off + 1, none⟩ = some (.string ((rd_T49 l1 x5_1).f1)) ∧ w'.cell? ⟨(ad104.add ((x5_1).toNat * 5)).block, (ad104.add ((x5_1).toNat * 5)).off + 2, none⟩ = some (.int .i64 ((rd_T49 l1 x5_1).f2)) ∧ w'.cell? ⟨(ad104.add ((x5_1).toNat * 5)).block, (ad104.add ((x5_1).toNat * 5)).off + 3, none⟩ = some (.int .i64 ((rd_T49 l1 x5_1).f3)) ∧ w'.cell? ⟨(ad104.add ((x5_1).toNat * 5)).block, (ad104.add ((x5_1).toNat * 5)).off + 4, none⟩ = some (.int .i64 ((rd_T49 l1 x5_1).f4))) (ds := []) (bl 10 0) (by kernel_rfl) rfl rfl ⟨(hc HB hw103_0), (hc HB hw103_1), (hc HB hw103_2), (hc HB hw103_3), (hc HB hw103_4), (hc HB hw104_0), (hc HB hw104_1), (hc HB hw104_2), (hc HB hw104_3), (hc HB hw104_4)⟩ (fun hHeld => ?_); refine with_tabW laws_eqProbeClashS.tab6 laws_eqProbeClashS.bits6 (fun HT_ HW_ => ?_)
        generalize wr.drew = w9 at HB hx103_0 hx103_1 hx103_2 hx103_3 hx103_4 hx104_0 hx104_1 hx104_2 hx104_3 hx104_4 hHeld ⊢
        refine pu 0 17 (bl 10 1) ?_
        refine pu 1 18 (bl 10 3) ?_
        refine pu 2 19 (bl 10 7) ?_
        refine pu 4 21 (bl 10 23) ?_
        refine pu 5 22 (bl 10 55) ?_
        refine pu 6 23 (bl 10 119) ?_
        refine tk 3 20 (bl 10 127) ?_ hHeld
        refine tk 7 24 (bl 10 255) ?_ hHeld
        refine oe 8 25 (bl 10 511) (fun K hK => ?_)
        refine gs Try.func47 #[.agg #[.string ((rd_T49 l0 x5_1).f0), .string ((rd_T49 l0 x5_1).f1), .int .i64 ((rd_T49 l0 x5_1).f2), .int .i64 ((rd_T49 l0 x5_1).f3), .int .i64 ((rd_T49 l0 x5_1).f4)], .agg #[.string ((rd_T49 l1 x5_1).f0), .string ((rd_T49 l1 x5_1).f1), .int .i64 ((rd_T49 l1 x5_1).f2), .int .i64 ((rd_T49 l1 x5_1).f3), .int .i64 ((rd_T49 l1 x5_1).f4)]] ?_
        with_reducible refine (laws_eqProbeClash.calls ((rd_T49 l0 x5_1).f0) ((rd_T49 l0 x5_1).f1) ((rd_T49 l0 x5_1).f2) ((rd_T49 l0 x5_1).f3) ((rd_T49 l0 x5_1).f4) ((rd_T49 l1 x5_1).f0) ((rd_T49 l1 x5_1).f1) ((rd_T49 l1 x5_1).f2) ((rd_T49 l1 x5_1).f3) ((rd_T49 l1 x5_1).f4) true _ A7.out).mono ?_
        rintro e w10 ⟨rfl, hb⟩
        refine ⟨_, rfl, ?_⟩
        have _ := bs hb
        clear HB
        rename_i HB
        (try clear hb)
        (try clear hb2)
        (try clear hk)
        (try clear hi)
        refine hK.out _ _ ⟨(hc HB hw103_0), (hc HB hw103_1), (hc HB hw103_2), (hc HB hw103_3), (hc HB hw103_4), (hc HB hw104_0), (hc HB hw104_1), (hc HB hw104_2), (hc HB hw104_3), (hc HB hw104_4)⟩ (fun hHeld => ?_)
        clear hK K
        refine nm 25 ?_
        refine pu 9 26 (bl 10 1023) ?_
        refine done_ (done_of HT_.out (by kernel_rfl)) ?_
        try go_wp2
        go_roundg k1
        case measure => have := HK1.out; omega
        case rel => exact ⟨(wrap64 (x5_1 + 1)), rs, H', ⟨by have := HK1.out; omega⟩, ⟨bq⟩⟩
       ·replace c8 := Bool.eq_false_iff.mpr c8
        subst c8
        have H1 : (some false) = some r := by rw [if_neg (show ¬ (false = true) by decide)] at H; exact H
        clear H
        have H := H1
        clear H1
        obtain rfl := Option.some.inj H
        try go_wp2
        have _ := ra (below_drew1 HB.out)
        clear HB
        rename_i HB
        have p103 : 0 ≤ (x5_1 : Int) := od
        have q103 : x5_1 < (l0.length : Int) := od
        obtain ⟨ad103, e103, hx103_0, hx103_1, hx103_2, hx103_3, hx103_4⟩ := at_T49 HR0.out x5_1 p103 q103
        have hw103_4 := hx103_4
        have hw103_3 := hx103_3
        have hw103_2 := hx103_2
        have hw103_1 := hx103_1
        have hw103_0 := hx103_0
        cases e103
        replace hx103_0 := hc HB hx103_0
        replace hx103_1 := hc HB hx103_1
        replace hx103_2 := hc HB hx103_2
        replace hx103_3 := hc HB hx103_3
        replace hx103_4 := hc HB hx103_4
        replace p103 := eq_true p103
        replace q103 := eq_true q103
        have p104 : 0 ≤ (x5_1 : Int) := od
        have q104 : x5_1 < (l1.length : Int) := od
        obtain ⟨ad104, e104, hx104_0, hx104_1, hx104_2, hx104_3, hx104_4⟩ := at_T49 HR1.out x5_1 p104 q104
        have hw104_4 := hx104_4
        have hw104_3 := hx104_3
        have hw104_2 := hx104_2
        have hw104_1 := hx104_1
        have hw104_0 := hx104_0
        cases e104
        replace hx104_0 := hc HB hx104_0
        replace hx104_1 := hc HB hx104_1
        replace hx104_2 := hc HB hx104_2
        replace hx104_3 := hc HB hx104_3
        replace hx104_4 := hc HB hx104_4
        replace p104 := eq_true p104
        replace q104 := eq_true q104
        refine start_ (n := 10) (S := fun w' => w'.cell? (ad103.add ((x5_1).toNat * 5)) = some (.string ((rd_T49 l0 x5_1).f0)) ∧ w'.cell? ⟨(ad103.add ((x5_1).toNat * 5)).block, (ad103.add ((x5_1).toNat * 5)).off + 1, none⟩ = some (.string ((rd_T49 l0 x5_1).f1)) ∧ w'.cell? ⟨(ad103.add ((x5_1).toNat * 5)).block, (ad103.add ((x5_1).toNat * 5)).off + 2, none⟩ = some (.int .i64 ((rd_T49 l0 x5_1).f2)) ∧ w'.cell? ⟨(ad103.add ((x5_1).toNat * 5)).block, (ad103.add ((x5_1).toNat * 5)).off + 3, none⟩ = some (.int .i64 ((rd_T49 l0 x5_1).f3)) ∧ w'.cell? ⟨(ad103.add ((x5_1).toNat * 5)).block, (ad103.add ((x5_1).toNat * 5)).off + 4, none⟩ = some (.int .i64 ((rd_T49 l0 x5_1).f4)) ∧ w'.cell? (ad104.add ((x5_1).toNat * 5)) = some (.string ((rd_T49 l1 x5_1).f0)) ∧ w'.cell? ⟨(ad104.add ((x5_1).toNat * 5)).block, (ad104.add ((x5_1).toNat * 5)).off + 1, none⟩ = some (.string ((rd_T49 l1 x5_1).f1)) ∧ w'.cell? ⟨(ad104.add ((x5_1).toNat * 5)).block, (ad104.add ((x5_1).toNat * 5)).off + 2, none⟩ = some (.int .i64 ((rd_T49 l1 x5_1).f2)) ∧ w'.cell? ⟨(ad104.add ((x5_1).toNat * 5)).block, (ad104.add ((x5_1).toNat * 5)).off + 3, none⟩ = some (.int .i64 ((rd_T49 l1 x5_1).f3)) ∧ w'.cell? ⟨(ad104.add ((x5_1).toNat * 5)).block, (ad104.add ((x5_1).toNat * 5)).off + 4, none⟩ = some (.int .i64 ((rd_T49 l1 x5_1).f4))) (ds := []) (bl 10 0) (by kernel_rfl) rfl rfl ⟨(hc HB hw103_0), (hc HB hw103_1), (hc HB hw103_2), (hc HB hw103_3), (hc HB hw103_4), (hc HB hw104_0), (hc HB hw104_1), (hc HB hw104_2), (hc HB hw104_3), (hc HB hw104_4)⟩ (fun hHeld => ?_); refine with_tabW laws_eqProbeClashS.tab6 laws_eqProbeClashS.bits6 (fun HT_ HW_ => ?_)
        generalize wr.drew = w11 at HB hx103_0 hx103_1 hx103_2 hx103_3 hx103_4 hx104_0 hx104_1 hx104_2 hx104_3 hx104_4 hHeld ⊢
        refine pu 0 17 (bl 10 1) ?_
        refine pu 1 18 (bl 10 3) ?_
        refine pu 2 19 (bl 10 7) ?_
        refine pu 4 21 (bl 10 23) ?_
        refine pu 5 22 (bl 10 55) ?_
        refine pu 6 23 (bl 10 119) ?_
        refine tk 3 20 (bl 10 127) ?_ hHeld
        refine tk 7 24 (bl 10 255) ?_ hHeld
        refine oe 8 25 (bl 10 511) (fun K hK => ?_)
        refine gs Try.func47 #[.agg #[.string ((rd_T49 l0 x5_1).f0), .string ((rd_T49 l0 x5_1).f1), .int .i64 ((rd_T49 l0 x5_1).f2), .int .i64 ((rd_T49 l0 x5_1).f3), .int .i64 ((rd_T49 l0 x5_1).f4)], .agg #[.string ((rd_T49 l1 x5_1).f0), .string ((rd_T49 l1 x5_1).f1), .int .i64 ((rd_T49 l1 x5_1).f2), .int .i64 ((rd_T49 l1 x5_1).f3), .int .i64 ((rd_T49 l1 x5_1).f4)]] ?_
        with_reducible refine (laws_eqProbeClash.calls ((rd_T49 l0 x5_1).f0) ((rd_T49 l0 x5_1).f1) ((rd_T49 l0 x5_1).f2) ((rd_T49 l0 x5_1).f3) ((rd_T49 l0 x5_1).f4) ((rd_T49 l1 x5_1).f0) ((rd_T49 l1 x5_1).f1) ((rd_T49 l1 x5_1).f2) ((rd_T49 l1 x5_1).f3) ((rd_T49 l1 x5_1).f4) false _ A7.out).mono ?_
        rintro e w12 ⟨rfl, hb⟩
        refine ⟨_, rfl, ?_⟩
        have _ := bs hb
        clear HB
        rename_i HB
        (try clear hb)
        (try clear hb2)
        (try clear hk)
        (try clear hi)
        refine hK.out _ _ ⟨(hc HB hw103_0), (hc HB hw103_1), (hc HB hw103_2), (hc HB hw103_3), (hc HB hw103_4), (hc HB hw104_0), (hc HB hw104_1), (hc HB hw104_2), (hc HB hw104_3), (hc HB hw104_4)⟩ (fun hHeld => ?_)
        clear hK K
        refine nm 25 ?_
        refine pu 9 26 (bl 10 1023) ?_
        refine done_ (done_of HT_.out (by kernel_rfl)) ?_
        try go_wp2
        go_ret
        exact ⟨re, bq⟩
      ·rw [if_neg c6] at H
       exact absurd H (by simp)
     ·rw [if_neg c5] at H
      exact absurd H (by simp)
    ·rw [if_neg c4] at H
     have c4b0 : decide (x5_1 < (l0.length : Int)) = false := decide_eq_false c4
     clear c4
     obtain rfl := Option.some.inj H
     go_wp2
     go_ret
     exact ⟨re, bq⟩
 ·rw [if_neg c3] at H
  have c3b0 : ((l0.length : Int) == (l1.length : Int)) = false := beq_eq_false_iff_ne.mpr c3
  have c3b1 : ((l0.length : Int) != (l1.length : Int)) = true := bne_iff_ne.mpr c3
  have c3b2 : (l0.length == l1.length) = false := by first | simpa using c3 | (simp at c3 ⊢; omega)
  obtain rfl := Option.some.inj H
  go_enter Try.func13, Try.ntmps13
  go_wp2
  go_ret
  exact ⟨re, bq⟩
set_option maxHeartbeats 8000000 in
set_option maxRecDepth 100000 in
theorem laws_markProbeClashS.calls (k : Nat) (P0_ : Nat → Prop) (u9000_ : Value) (l0 : List (S49)) (a1 : Int) (r1 : Int) (r2 : List (S49)) (w0 w : World) (hB : Below w0.heap.size w0 w) (ho0 : Kd.R k49 49 w w0.heap.size P0_ u9000_ l0) (h : laws_markProbeClashS.f k l0 a1 = some (r1, r2)) :
  Calls Try.prog 16 #[u9000_, .int .i64 a1] w fun e w' => e = .returned (.int .i64 r1) ∧ Kd.R k49 49 w' w0.heap.size (fun k_ => (P0_ k_ ∨ w.heap.size ≤ k_)) u9000_ r2 ∧ Below w0.heap.size w0 w' ∧ Kept w w' (fun k_ => P0_ k_) := by
 have HO0 := ra (show Kd.R k49 49 w w0.heap.size (fun k_ => (P0_ k_ ∨ w.heap.size ≤ k_)) u9000_ l0 from Kd.R_mono ho0 (fun k_ hk => (.inl hk)))
 have HK := ra (Kept.refl w (fun k_ => P0_ k_))
 have HW0 := Aside0.mk hB.size
 have HB := Aside0.mk hB
 clear hB
 have H : (laws_markProbeClashS.l0 k l0 a1 0) = some (r1, r2) := h
 clear h
 have H' := Aside0.mk H
 clear H
 go_enter Try.func16, Try.ntmps16
 go_wp2
 go_loopg [1, 5] k (fun kq v1 v5 w' => ∃ (x0_1 : List (S49)) (x1_1 : Int) (x5_1 : Int), v1 = .int .i64 x1_1 ∧ v5 = .int .i64 x5_1 ∧ Aside0 (laws_markProbeClashS.l0 kq x0_1 x1_1 x5_1 = some (r1, r2)) ∧ Aside0 (kq ≤ k) ∧ Aside0 (Kd.R k49 49 w' w0.heap.size (fun k_ => (P0_ k_ ∨ w.heap.size ≤ k_)) u9000_ x0_1) ∧ Aside0 (Kept w w' (fun k_ => P0_ k_)) ∧ Aside0 (Below w0.heap.size w0 w'))
 case atStart => exact ⟨(l0), (a1), (0), rs, rs, H', ⟨Nat.le_refl _⟩, ⟨rq HO0⟩, ⟨by repeat (first | (with_reducible first | exact HK.out | apply Kept.alloc | apply Kept.drewN | apply Kept.drew) | exact HK.out)⟩, ⟨bq⟩⟩
 case round =>
  clear H'
  obtain ⟨x0_1, x1_1, x5_1, rfl, rfl, HA, HK1, HO_0, HK, HB⟩ := hrel
  cases gk with
  | zero => exact absurd HA.out (by simp [laws_markProbeClashS.l0])
  | succ k1 =>
   have H := HA.out
   clear HA
   simp only [laws_markProbeClashS.l0] at H
   by_cases c3 : x5_1 < (x0_1.length : Int)
   ·rw [if_pos c3] at H
    have c3b0 : decide (x5_1 < (x0_1.length : Int)) = true := decide_eq_true c3
    clear c3
    obtain ⟨t109, A4, H⟩ := bo H
    by_cases c5 : 0 ≤ x5_1
    ·rw [if_pos c5] at H
     have c5b0 : decide (0 ≤ x5_1) = true := decide_eq_true c5
     clear c5
     obtain ⟨y110, hy_⟩ : ∃ y_ : List (S49), y_ = (x0_1.set (x5_1 : Int).toNat (⟨t109, (rd_T49 x0_1 x5_1).f1, (rd_T49 x0_1 x5_1).f2, (rd_T49 x0_1 x5_1).f3, (rd_T49 x0_1 x5_1).f4⟩ : S49)) := ⟨_, rfl⟩
     replace H : ((laws_markText.f k1 (wrap64 (x1_1 + 1))).bind fun t111 => ((some (y110.set (x5_1 : Int).toNat (⟨(rd_T49 y110 x5_1).f0, t111, (rd_T49 y110 x5_1).f2, (rd_T49 y110 x5_1).f3, (rd_T49 y110 x5_1).f4⟩ : S49) : List (S49))).bind fun y112 => ((some (y112.set (x5_1 : Int).toNat (⟨(rd_T49 y112 x5_1).f0, (rd_T49 y112 x5_1).f1, wrap64 ((wrap64 (x1_1 + 1)) + 1), (rd_T49 y112 x5_1).f3, (rd_T49 y112 x5_1).f4⟩ : S49) : List (S49))).bind fun y113 => ((some (y113.set (x5_1 : Int).toNat (⟨(rd_T49 y113 x5_1).f0, (rd_T49 y113 x5_1).f1, (rd_T49 y113 x5_1).f2, wrap64 ((wrap64 ((wrap64 (x1_1 + 1)) + 1)) + 1), (rd_T49 y113 x5_1).f4⟩ : S49) : List (S49))).bind fun y114 => (laws_markProbeClashS.l0 k1 (y114.set (x5_1 : Int).toNat (⟨(rd_T49 y114 x5_1).f0, (rd_T49 y114 x5_1).f1, (rd_T49 y114 x5_1).f2, (rd_T49 y114 x5_1).f3, wrap64 ((wrap64 ((wrap64 ((wrap64 (x1_1 + 1)) + 1)) + 1)) + 1)⟩ : S49)) (wrap64 ((wrap64 ((wrap64 ((wrap64 ((wrap64 (x1_1 + 1)) + 1)) + 1)) + 1)) + 1)) (wrap64 (x5_1 + 1))))))) = some (r1, r2) := yh
     have Ny110 := ra hy_
     clear hy_
     obtain ⟨t111, A7, H⟩ := bo H
     obtain ⟨y112, hy_⟩ : ∃ y_ : List (S49), y_ = (y110.set (x5_1 : Int).toNat (⟨(rd_T49 y110 x5_1).f0, t111, (rd_T49 y110 x5_1).f2, (rd_T49 y110 x5_1).f3, (rd_T49 y110 x5_1).f4⟩ : S49)) := ⟨_, rfl⟩
     replace H : ((some (y112.set (x5_1 : Int).toNat (⟨(rd_T49 y112 x5_1).f0, (rd_T49 y112 x5_1).f1, wrap64 ((wrap64 (x1_1 + 1)) + 1), (rd_T49 y112 x5_1).f3, (rd_T49 y112 x5_1).f4⟩ : S49) : List (S49))).bind fun y113 => ((some (y113.set (x5_1 : Int).toNat (⟨(rd_T49 y113 x5_1).f0, (rd_T49 y113 x5_1).f1, (rd_T49 y113 x5_1).f2, wrap64 ((wrap64 ((wrap64 (x1_1 + 1)) + 1)) + 1), (rd_T49 y113 x5_1).f4⟩ : S49) : List (S49))).bind fun y114 => (laws_markProbeClashS.l0 k1 (y114.set (x5_1 : Int).toNat (⟨(rd_T49 y114 x5_1).f0, (rd_T49 y114 x5_1).f1, (rd_T49 y114 x5_1).f2, (rd_T49 y114 x5_1).f3, wrap64 ((wrap64 ((wrap64 ((wrap64 (x1_1 + 1)) + 1)) + 1)) + 1)⟩ : S49)) (wrap64 ((wrap64 ((wrap64 ((wrap64 ((wrap64 (x1_1 + 1)) + 1)) + 1)) + 1)) + 1)) (wrap64 (x5_1 + 1))))) = some (r1, r2) := yh
     have Ny112 := ra hy_
     clear hy_
     obtain ⟨y113, hy_⟩ : ∃ y_ : List (S49), y_ = (y112.set (x5_1 : Int).toNat (⟨(rd_T49 y112 x5_1).f0, (rd_T49 y112 x5_1).f1, wrap64 ((wrap64 (x1_1 + 1)) + 1), (rd_T49 y112 x5_1).f3, (rd_T49 y112 x5_1).f4⟩ : S49)) := ⟨_, rfl⟩
     replace H : ((some (y113.set (x5_1 : Int).toNat (⟨(rd_T49 y113 x5_1).f0, (rd_T49 y113 x5_1).f1, (rd_T49 y113 x5_1).f2, wrap64 ((wrap64 ((wrap64 (x1_1 + 1)) + 1)) + 1), (rd_T49 y113 x5_1).f4⟩ : S49) : List (S49))).bind fun y114 => (laws_markProbeClashS.l0 k1 (y114.set (x5_1 : Int).toNat (⟨(rd_T49 y114 x5_1).f0, (rd_T49 y114 x5_1).f1, (rd_T49 y114 x5_1).f2, (rd_T49 y114 x5_1).f3, wrap64 ((wrap64 ((wrap64 ((wrap64 (x1_1 + 1)) + 1)) + 1)) + 1)⟩ : S49)) (wrap64 ((wrap64 ((wrap64 ((wrap64 ((wrap64 (x1_1 + 1)) + 1)) + 1)) + 1)) + 1)) (wrap64 (x5_1 + 1)))) = some (r1, r2) := yh
     have Ny113 := ra hy_
     clear hy_
     obtain ⟨y114, hy_⟩ : ∃ y_ : List (S49), y_ = (y113.set (x5_1 : Int).toNat (⟨(rd_T49 y113 x5_1).f0, (rd_T49 y113 x5_1).f1, (rd_T49 y113 x5_1).f2, wrap64 ((wrap64 ((wrap64 (x1_1 + 1)) + 1)) + 1), (rd_T49 y113 x5_1).f4⟩ : S49)) := ⟨_, rfl⟩
     replace H : (laws_markProbeClashS.l0 k1 (y114.set (x5_1 : Int).toNat (⟨(rd_T49 y114 x5_1).f0, (rd_T49 y114 x5_1).f1, (rd_T49 y114 x5_1).f2, (rd_T49 y114 x5_1).f3, wrap64 ((wrap64 ((wrap64 ((wrap64 (x1_1 + 1)) + 1)) + 1)) + 1)⟩ : S49)) (wrap64 ((wrap64 ((wrap64 ((wrap64 ((wrap64 (x1_1 + 1)) + 1)) + 1)) + 1)) + 1)) (wrap64 (x5_1 + 1))) = some (r1, r2) := yh
     have Ny114 := ra hy_
     clear hy_
     obtain ⟨y115, hy_⟩ : ∃ y_ : List (S49), y_ = (y114.set (x5_1 : Int).toNat (⟨(rd_T49 y114 x5_1).f0, (rd_T49 y114 x5_1).f1, (rd_T49 y114 x5_1).f2, (rd_T49 y114 x5_1).f3, wrap64 ((wrap64 ((wrap64 ((wrap64 (x1_1 + 1)) + 1)) + 1)) + 1)⟩ : S49)) := ⟨_, rfl⟩
     replace H : (laws_markProbeClashS.l0 k1 y115 (wrap64 ((wrap64 ((wrap64 ((wrap64 ((wrap64 (x1_1 + 1)) + 1)) + 1)) + 1)) + 1)) (wrap64 (x5_1 + 1))) = some (r1, r2) := yh
     have Ny115 := ra hy_
     clear hy_
     have H' := Aside0.mk H
     clear H
     obtain ⟨Ao12, co12, eo12⟩ := Kd.R_slice HO_0.out
     subst eo12
     go_wp2_with (first | ((with_reducible refine gate_callee (f := 48) rfl ?_); refine gl (some 15) Try.func48 #[.int .i64 x1_1] ?_; (with_reducible refine (laws_markText.calls k1 x1_1 t109 _ A4.out).mono ?_); rintro e w13 ⟨rfl, hb⟩; refine ⟨_, rfl, ?_⟩; have _ := ra (Kd.R_below (rq HO_0) hb); have _ := ra (Kept.below (S := (fun k_ => P0_ k_)) (by repeat (first | (with_reducible first | exact HK.out | apply Kept.alloc | apply Kept.drewN | apply Kept.drew) | exact HK.out)) hb); have _ := bs hb; clear HO_0 HK HB; rename_i HO_0 HK HB; (try clear hb); (try clear hb2); (try clear hk); (try clear hi); have p6 : 0 ≤ (x5_1 : Int) := od; have q6 : (x5_1 : Int) < ((x0_1.length : Int) : Int) := od; obtain ⟨go6, co6, eo6, gb6, gl6, cl6, HG6⟩ := Kd.R_form HO_0.out (by omega); (first | cases eo6 | (injection eo6 with ea_ en_ ec_; (first | subst ea_ | (injection ea_ with ea_; subst ea_)); subst ec_; clear en_)); have GB6 := Aside0.mk gb6; have GG6 := Aside0.mk HG6; clear gb6 gl6 HG6; have HMgo6 := ra (show (P0_ go6 ∨ w.heap.size ≤ go6) from (HO_0.out.1 _ rfl)); obtain ⟨ce6, hcl6, hM6, hcc6, hfr6⟩ := Kd.R_elem HO_0.out z49 (x5_1 : Int) p6 q6; obtain rfl := k49_openM hM6; have hx6_0 : w13.cell? ⟨go6, (x5_1 : Int).toNat * 5, none⟩ = some (.string ((rd_T49 x0_1 x5_1).f0)) := hcc6 0 _ rfl; have hx6_1 : w13.cell? ⟨go6, (x5_1 : Int).toNat * 5 + 1, none⟩ = some (.string ((rd_T49 x0_1 x5_1).f1)) := hcc6 1 _ rfl; have hx6_2 : w13.cell? ⟨go6, (x5_1 : Int).toNat * 5 + 2, none⟩ = some (.int .i64 ((rd_T49 x0_1 x5_1).f2)) := hcc6 2 _ rfl; have hx6_3 : w13.cell? ⟨go6, (x5_1 : Int).toNat * 5 + 3, none⟩ = some (.int .i64 ((rd_T49 x0_1 x5_1).f3)) := hcc6 3 _ rfl; have hx6_4 : w13.cell? ⟨go6, (x5_1 : Int).toNat * 5 + 4, none⟩ = some (.int .i64 ((rd_T49 x0_1 x5_1).f4)) := hcc6 4 _ rfl; have hf6_0 : w13.frozen? ⟨go6, (x5_1 : Int).toNat * 5, none⟩ = false := hfr6 0; have hf6_1 : w13.frozen? ⟨go6, (x5_1 : Int).toNat * 5 + 1, none⟩ = false := hfr6 1; have hf6_2 : w13.frozen? ⟨go6, (x5_1 : Int).toNat * 5 + 2, none⟩ = false := hfr6 2; have hf6_3 : w13.frozen? ⟨go6, (x5_1 : Int).toNat * 5 + 3, none⟩ = false := hfr6 3; have hf6_4 : w13.frozen? ⟨go6, (x5_1 : Int).toNat * 5 + 4, none⟩ = false := hfr6 4; clear hcl6 hcc6 hfr6 hM6; replace p6 := eq_true p6; replace q6 := eq_true q6; have HX14 := ra (show Kd.R k49 49 w13 w0.heap.size (fun k_ => (P0_ k_ ∨ w.heap.size ≤ k_)) (.slice (some ⟨go6, 0, none⟩) x0_1.length co12) x0_1 from (rq HO_0)); obtain ⟨ce14, hcl14, hM14, hcc14, hfr14⟩ := Kd.R_elem HX14.out z49 (x5_1 : Int) (od) (by have h_ : (x5_1 : Int) < ((x0_1.length : Int) : Int) := od; first | exact h_ | (have e_ := (Kd.R_reads' HO_0.out).1; omega) | simpa using h_); obtain rfl := k49_openM hM14; have HP14 := Kd.R_seg HX14.out (x5_1 : Int) (od) (by have h_ : (x5_1 : Int) < ((x0_1.length : Int) : Int) := od; first | exact h_ | (have e_ := (Kd.R_reads' HO_0.out).1; omega) | simpa using h_) (seg := [.string t109]) (j := 0) hcl14 hcc14 (show 1 ≤ 5 from by decide) (x' := (⟨t109, (rd_T49 x0_1 x5_1).f1, (rd_T49 x0_1 x5_1).f2, (rd_T49 x0_1 x5_1).f3, (rd_T49 x0_1 x5_1).f4⟩ : S49)) (k49_mkM _ _ _ (⟨t109, (rd_T49 x0_1 x5_1).f1, (rd_T49 x0_1 x5_1).f2, (rd_T49 x0_1 x5_1).f3, (rd_T49 x0_1 x5_1).f4⟩ : S49) ) (fun _ hk => hk); have hx14_0 := hcc14 0 _ rfl; (try simp only [show (k49).sz = 5 from rfl, Nat.mul_one, Nat.add_zero] at hx14_0); have hf14_0 := hfr14 0; (try simp only [show (k49).sz = 5 from rfl, Nat.mul_one, Nat.add_zero] at hf14_0); clear hcl14 hcc14 hfr14 hM14) | ((with_reducible refine gate_store (t := 9) (p := 17) rfl ?_); refine store_event (t := 9) (p := 17) (v := ?vo_w15) (w1 := (w13.setCell ⟨go6, (x5_1 : Int).toNat * 5, none⟩ (.string t109))) ?hg ?ho ?hn ?hr ?_; (case ho => rfl); (case hg => rfl); (case hn => rfl); (case hr => first | (go_simp; done) | (go_simp; rfl)); intro w15 hw; have hg : w13.grownBy w15 (some go6) := (by rw [hw]; exact HP14.2); have hp_ : Kd.R k49 49 w15 w0.heap.size (fun k_ => (P0_ k_ ∨ w.heap.size ≤ k_)) (.slice (some ⟨go6, 0, none⟩) x0_1.length co12) y110 := (by rw [hw, Ny110.out]; exact HP14.1); clear HP14; have _ := ra (hp_); have _ := ra ((by rw [hw]; exact below_set (HB.out) GB6.out : Below w0.heap.size w0 w15)); have _ := ra (Kept.of_grown (S := (fun k_ => P0_ k_)) hg (by repeat (first | (with_reducible first | exact HK.out | apply Kept.alloc | apply Kept.drewN | apply Kept.drew) | exact HK.out)) (fun k_ e_ => (HO_0.out.1 k_ e_))); clear HO_0 HB HK; rename_i HO_0 HB HK; clear hg hw hp_) | ((with_reducible refine gate_callee (f := 48) rfl ?_); refine gl (some 23) Try.func48 #[.int .i64 (wrap64 (x1_1 + 1))] ?_; (with_reducible refine (laws_markText.calls k1 (wrap64 (x1_1 + 1)) t111 _ A7.out).mono ?_); rintro e w16 ⟨rfl, hb⟩; refine ⟨_, rfl, ?_⟩; have _ := ra (Kd.R_below (rq HO_0) hb); have _ := ra (Kept.below (S := (fun k_ => P0_ k_)) (by repeat (first | (with_reducible first | exact HK.out | apply Kept.alloc | apply Kept.drewN | apply Kept.drew) | exact HK.out)) hb); have _ := bs hb; clear HO_0 HK HB; rename_i HO_0 HK HB; (try clear hb); (try clear hb2); (try clear hk); (try clear hi); have p8 : 0 ≤ (x5_1 : Int) := od; have q8 : (x5_1 : Int) < ((x0_1.length : Int) : Int) := od; obtain ⟨ce8, hcl8, hM8, hcc8, hfr8⟩ := Kd.R_elem HO_0.out z49 (x5_1 : Int) p8 q8; obtain rfl := k49_openM hM8; have hx8_0 : w16.cell? ⟨go6, (x5_1 : Int).toNat * 5, none⟩ = some (.string ((rd_T49 y110 x5_1).f0)) := hcc8 0 _ rfl; have hx8_1 : w16.cell? ⟨go6, (x5_1 : Int).toNat * 5 + 1, none⟩ = some (.string ((rd_T49 y110 x5_1).f1)) := hcc8 1 _ rfl; have hx8_2 : w16.cell? ⟨go6, (x5_1 : Int).toNat * 5 + 2, none⟩ = some (.int .i64 ((rd_T49 y110 x5_1).f2)) := hcc8 2 _ rfl; have hx8_3 : w16.cell? ⟨go6, (x5_1 : Int).toNat * 5 + 3, none⟩ = some (.int .i64 ((rd_T49 y110 x5_1).f3)) := hcc8 3 _ rfl; have hx8_4 : w16.cell? ⟨go6, (x5_1 : Int).toNat * 5 + 4, none⟩ = some (.int .i64 ((rd_T49 y110 x5_1).f4)) := hcc8 4 _ rfl; have hf8_0 : w16.frozen? ⟨go6, (x5_1 : Int).toNat * 5, none⟩ = false := hfr8 0; have hf8_1 : w16.frozen? ⟨go6, (x5_1 : Int).toNat * 5 + 1, none⟩ = false := hfr8 1; have hf8_2 : w16.frozen? ⟨go6, (x5_1 : Int).toNat * 5 + 2, none⟩ = false := hfr8 2; have hf8_3 : w16.frozen? ⟨go6, (x5_1 : Int).toNat * 5 + 3, none⟩ = false := hfr8 3; have hf8_4 : w16.frozen? ⟨go6, (x5_1 : Int).toNat * 5 + 4, none⟩ = false := hfr8 4; clear hcl8 hcc8 hfr8 hM8; replace p8 := eq_true p8; replace q8 := eq_true q8; have HX17 := ra (show Kd.R k49 49 w16 w0.heap.size (fun k_ => (P0_ k_ ∨ w.heap.size ≤ k_)) (.slice (some ⟨go6, 0, none⟩) x0_1.length co12) y110 from (rq HO_0)); obtain ⟨ce17, hcl17, hM17, hcc17, hfr17⟩ := Kd.R_elem HX17.out z49 (x5_1 : Int) (od) (by have h_ : (x5_1 : Int) < ((x0_1.length : Int) : Int) := od; first | exact h_ | (have e_ := (Kd.R_reads' HO_0.out).1; omega) | simpa using h_); obtain rfl := k49_openM hM17; have HP17 := Kd.R_seg HX17.out (x5_1 : Int) (od) (by have h_ : (x5_1 : Int) < ((x0_1.length : Int) : Int) := od; first | exact h_ | (have e_ := (Kd.R_reads' HO_0.out).1; omega) | simpa using h_) (seg := [.string t111]) (j := 1) hcl17 hcc17 (show 2 ≤ 5 from by decide) (x' := (⟨(rd_T49 y110 x5_1).f0, t111, (rd_T49 y110 x5_1).f2, (rd_T49 y110 x5_1).f3, (rd_T49 y110 x5_1).f4⟩ : S49)) (k49_mkM _ _ _ (⟨(rd_T49 y110 x5_1).f0, t111, (rd_T49 y110 x5_1).f2, (rd_T49 y110 x5_1).f3, (rd_T49 y110 x5_1).f4⟩ : S49) ) (fun _ hk => hk); have hx17_1 := hcc17 1 _ rfl; (try simp only [show (k49).sz = 5 from rfl, Nat.mul_one, Nat.add_zero] at hx17_1); have hf17_1 := hfr17 1; (try simp only [show (k49).sz = 5 from rfl, Nat.mul_one, Nat.add_zero] at hf17_1); clear hcl17 hcc17 hfr17 hM17) | ((with_reducible refine gate_store (t := 9) (p := 25) rfl ?_); refine store_event (t := 9) (p := 25) (v := ?vo_w18) (w1 := (w16.setCell ⟨go6, (x5_1 : Int).toNat * 5 + 1, none⟩ (.string t111))) ?hg ?ho ?hn ?hr ?_; (case ho => rfl); (case hg => rfl); (case hn => rfl); (case hr => first | (go_simp; done) | (go_simp; rfl)); intro w18 hw; have hg : w16.grownBy w18 (some go6) := (by rw [hw]; exact HP17.2); have hp_ : Kd.R k49 49 w18 w0.heap.size (fun k_ => (P0_ k_ ∨ w.heap.size ≤ k_)) (.slice (some ⟨go6, 0, none⟩) x0_1.length co12) y112 := (by rw [hw, Ny112.out]; exact HP17.1); clear HP17; have _ := ra (hp_); have _ := ra ((by rw [hw]; exact below_set (HB.out) GB6.out : Below w0.heap.size w0 w18)); have _ := ra (Kept.of_grown (S := (fun k_ => P0_ k_)) hg (by repeat (first | (with_reducible first | exact HK.out | apply Kept.alloc | apply Kept.drewN | apply Kept.drew) | exact HK.out)) (fun k_ e_ => (HO_0.out.1 k_ e_))); clear HO_0 HB HK; rename_i HO_0 HB HK; clear hg hw hp_; have p9 : 0 ≤ (x5_1 : Int) := od; have q9 : (x5_1 : Int) < ((x0_1.length : Int) : Int) := od; obtain ⟨ce9, hcl9, hM9, hcc9, hfr9⟩ := Kd.R_elem HO_0.out z49 (x5_1 : Int) p9 q9; obtain rfl := k49_openM hM9; have hx9_0 : w18.cell? ⟨go6, (x5_1 : Int).toNat * 5, none⟩ = some (.string ((rd_T49 y112 x5_1).f0)) := hcc9 0 _ rfl; have hx9_1 : w18.cell? ⟨go6, (x5_1 : Int).toNat * 5 + 1, none⟩ = some (.string ((rd_T49 y112 x5_1).f1)) := hcc9 1 _ rfl; have hx9_2 : w18.cell? ⟨go6, (x5_1 : Int).toNat * 5 + 2, none⟩ = some (.int .i64 ((rd_T49 y112 x5_1).f2)) := hcc9 2 _ rfl; have hx9_3 : w18.cell? ⟨go6, (x5_1 : Int).toNat * 5 + 3, none⟩ = some (.int .i64 ((rd_T49 y112 x5_1).f3)) := hcc9 3 _ rfl; have hx9_4 : w18.cell? ⟨go6, (x5_1 : Int).toNat * 5 + 4, none⟩ = some (.int .i64 ((rd_T49 y112 x5_1).f4)) := hcc9 4 _ rfl; have hf9_0 : w18.frozen? ⟨go6, (x5_1 : Int).toNat * 5, none⟩ = false := hfr9 0; have hf9_1 : w18.frozen? ⟨go6, (x5_1 : Int).toNat * 5 + 1, none⟩ = false := hfr9 1; have hf9_2 : w18.frozen? ⟨go6, (x5_1 : Int).toNat * 5 + 2, none⟩ = false := hfr9 2; have hf9_3 : w18.frozen? ⟨go6, (x5_1 : Int).toNat * 5 + 3, none⟩ = false := hfr9 3; have hf9_4 : w18.frozen? ⟨go6, (x5_1 : Int).toNat * 5 + 4, none⟩ = false := hfr9 4; clear hcl9 hcc9 hfr9 hM9; replace p9 := eq_true p9; replace q9 := eq_true q9; have HX19 := ra (show Kd.R k49 49 w18 w0.heap.size (fun k_ => (P0_ k_ ∨ w.heap.size ≤ k_)) (.slice (some ⟨go6, 0, none⟩) x0_1.length co12) y112 from (rq HO_0)); obtain ⟨ce19, hcl19, hM19, hcc19, hfr19⟩ := Kd.R_elem HX19.out z49 (x5_1 : Int) (od) (by have h_ : (x5_1 : Int) < ((x0_1.length : Int) : Int) := od; first | exact h_ | (have e_ := (Kd.R_reads' HO_0.out).1; omega) | simpa using h_); obtain rfl := k49_openM hM19; have HP19 := Kd.R_seg HX19.out (x5_1 : Int) (od) (by have h_ : (x5_1 : Int) < ((x0_1.length : Int) : Int) := od; first | exact h_ | (have e_ := (Kd.R_reads' HO_0.out).1; omega) | simpa using h_) (seg := [.int .i64 (wrap64 ((wrap64 (x1_1 + 1)) + 1))]) (j := 2) hcl19 hcc19 (show 3 ≤ 5 from by decide) (x' := (⟨(rd_T49 y112 x5_1).f0, (rd_T49 y112 x5_1).f1, wrap64 ((wrap64 (x1_1 + 1)) + 1), (rd_T49 y112 x5_1).f3, (rd_T49 y112 x5_1).f4⟩ : S49)) (k49_mkM _ _ _ (⟨(rd_T49 y112 x5_1).f0, (rd_T49 y112 x5_1).f1, wrap64 ((wrap64 (x1_1 + 1)) + 1), (rd_T49 y112 x5_1).f3, (rd_T49 y112 x5_1).f4⟩ : S49) ) (fun _ hk => hk); have hx19_2 := hcc19 2 _ rfl; (try simp only [show (k49).sz = 5 from rfl, Nat.mul_one, Nat.add_zero] at hx19_2); have hf19_2 := hfr19 2; (try simp only [show (k49).sz = 5 from rfl, Nat.mul_one, Nat.add_zero] at hf19_2); clear hcl19 hcc19 hfr19 hM19) | ((with_reducible refine gate_store (t := 3) (p := 32) rfl ?_); refine store_event (t := 3) (p := 32) (v := ?vo_w20) (w1 := (w18.setCell ⟨go6, (x5_1 : Int).toNat * 5 + 2, none⟩ (.int .i64 (wrap64 ((wrap64 (x1_1 + 1)) + 1))))) ?hg ?ho ?hn ?hr ?_; (case ho => rfl); (case hg => rfl); (case hn => rfl); (case hr => first | (go_simp; done) | (go_simp; rfl)); intro w20 hw; have hg : w18.grownBy w20 (some go6) := (by rw [hw]; exact HP19.2); have hp_ : Kd.R k49 49 w20 w0.heap.size (fun k_ => (P0_ k_ ∨ w.heap.size ≤ k_)) (.slice (some ⟨go6, 0, none⟩) x0_1.length co12) y113 := (by rw [hw, Ny113.out]; exact HP19.1); clear HP19; have _ := ra (hp_); have _ := ra ((by rw [hw]; exact below_set (HB.out) GB6.out : Below w0.heap.size w0 w20)); have _ := ra (Kept.of_grown (S := (fun k_ => P0_ k_)) hg (by repeat (first | (with_reducible first | exact HK.out | apply Kept.alloc | apply Kept.drewN | apply Kept.drew) | exact HK.out)) (fun k_ e_ => (HO_0.out.1 k_ e_))); clear HO_0 HB HK; rename_i HO_0 HB HK; clear hg hw hp_; have p10 : 0 ≤ (x5_1 : Int) := od; have q10 : (x5_1 : Int) < ((x0_1.length : Int) : Int) := od; obtain ⟨ce10, hcl10, hM10, hcc10, hfr10⟩ := Kd.R_elem HO_0.out z49 (x5_1 : Int) p10 q10; obtain rfl := k49_openM hM10; have hx10_0 : w20.cell? ⟨go6, (x5_1 : Int).toNat * 5, none⟩ = some (.string ((rd_T49 y113 x5_1).f0)) := hcc10 0 _ rfl; have hx10_1 : w20.cell? ⟨go6, (x5_1 : Int).toNat * 5 + 1, none⟩ = some (.string ((rd_T49 y113 x5_1).f1)) := hcc10 1 _ rfl; have hx10_2 : w20.cell? ⟨go6, (x5_1 : Int).toNat * 5 + 2, none⟩ = some (.int .i64 ((rd_T49 y113 x5_1).f2)) := hcc10 2 _ rfl; have hx10_3 : w20.cell? ⟨go6, (x5_1 : Int).toNat * 5 + 3, none⟩ = some (.int .i64 ((rd_T49 y113 x5_1).f3)) := hcc10 3 _ rfl; have hx10_4 : w20.cell? ⟨go6, (x5_1 : Int).toNat * 5 + 4, none⟩ = some (.int .i64 ((rd_T49 y113 x5_1).f4)) := hcc10 4 _ rfl; have hf10_0 : w20.frozen? ⟨go6, (x5_1 : Int).toNat * 5, none⟩ = false := hfr10 0; have hf10_1 : w20.frozen? ⟨go6, (x5_1 : Int).toNat * 5 + 1, none⟩ = false := hfr10 1; have hf10_2 : w20.frozen? ⟨go6, (x5_1 : Int).toNat * 5 + 2, none⟩ = false := hfr10 2; have hf10_3 : w20.frozen? ⟨go6, (x5_1 : Int).toNat * 5 + 3, none⟩ = false := hfr10 3; have hf10_4 : w20.frozen? ⟨go6, (x5_1 : Int).toNat * 5 + 4, none⟩ = false := hfr10 4; clear hcl10 hcc10 hfr10 hM10; replace p10 := eq_true p10; replace q10 := eq_true q10; have HX21 := ra (show Kd.R k49 49 w20 w0.heap.size (fun k_ => (P0_ k_ ∨ w.heap.size ≤ k_)) (.slice (some ⟨go6, 0, none⟩) x0_1.length co12) y113 from (rq HO_0)); obtain ⟨ce21, hcl21, hM21, hcc21, hfr21⟩ := Kd.R_elem HX21.out z49 (x5_1 : Int) (od) (by have h_ : (x5_1 : Int) < ((x0_1.length : Int) : Int) := od; first | exact h_ | (have e_ := (Kd.R_reads' HO_0.out).1; omega) | simpa using h_); obtain rfl := k49_openM hM21; have HP21 := Kd.R_seg HX21.out (x5_1 : Int) (od) (by have h_ : (x5_1 : Int) < ((x0_1.length : Int) : Int) := od; first | exact h_ | (have e_ := (Kd.R_reads' HO_0.out).1; omega) | simpa using h_) (seg := [.int .i64 (wrap64 ((wrap64 ((wrap64 (x1_1 + 1)) + 1)) + 1))]) (j := 3) hcl21 hcc21 (show 4 ≤ 5 from by decide) (x' := (⟨(rd_T49 y113 x5_1).f0, (rd_T49 y113 x5_1).f1, (rd_T49 y113 x5_1).f2, wrap64 ((wrap64 ((wrap64 (x1_1 + 1)) + 1)) + 1), (rd_T49 y113 x5_1).f4⟩ : S49)) (k49_mkM _ _ _ (⟨(rd_T49 y113 x5_1).f0, (rd_T49 y113 x5_1).f1, (rd_T49 y113 x5_1).f2, wrap64 ((wrap64 ((wrap64 (x1_1 + 1)) + 1)) + 1), (rd_T49 y113 x5_1).f4⟩ : S49) ) (fun _ hk => hk); have hx21_3 := hcc21 3 _ rfl; (try simp only [show (k49).sz = 5 from rfl, Nat.mul_one, Nat.add_zero] at hx21_3); have hf21_3 := hfr21 3; (try simp only [show (k49).sz = 5 from rfl, Nat.mul_one, Nat.add_zero] at hf21_3); clear hcl21 hcc21 hfr21 hM21) | ((with_reducible refine gate_store (t := 3) (p := 39) rfl ?_); refine store_event (t := 3) (p := 39) (v := ?vo_w22) (w1 := (w20.setCell ⟨go6, (x5_1 : Int).toNat * 5 + 3, none⟩ (.int .i64 (wrap64 ((wrap64 ((wrap64 (x1_1 + 1)) + 1)) + 1))))) ?hg ?ho ?hn ?hr ?_; (case ho => rfl); (case hg => rfl); (case hn => rfl); (case hr => first | (go_simp; done) | (go_simp; rfl)); intro w22 hw; have hg : w20.grownBy w22 (some go6) := (by rw [hw]; exact HP21.2); have hp_ : Kd.R k49 49 w22 w0.heap.size (fun k_ => (P0_ k_ ∨ w.heap.size ≤ k_)) (.slice (some ⟨go6, 0, none⟩) x0_1.length co12) y114 := (by rw [hw, Ny114.out]; exact HP21.1); clear HP21; have _ := ra (hp_); have _ := ra ((by rw [hw]; exact below_set (HB.out) GB6.out : Below w0.heap.size w0 w22)); have _ := ra (Kept.of_grown (S := (fun k_ => P0_ k_)) hg (by repeat (first | (with_reducible first | exact HK.out | apply Kept.alloc | apply Kept.drewN | apply Kept.drew) | exact HK.out)) (fun k_ e_ => (HO_0.out.1 k_ e_))); clear HO_0 HB HK; rename_i HO_0 HB HK; clear hg hw hp_; have p11 : 0 ≤ (x5_1 : Int) := od; have q11 : (x5_1 : Int) < ((x0_1.length : Int) : Int) := od; obtain ⟨ce11, hcl11, hM11, hcc11, hfr11⟩ := Kd.R_elem HO_0.out z49 (x5_1 : Int) p11 q11; obtain rfl := k49_openM hM11; have hx11_0 : w22.cell? ⟨go6, (x5_1 : Int).toNat * 5, none⟩ = some (.string ((rd_T49 y114 x5_1).f0)) := hcc11 0 _ rfl; have hx11_1 : w22.cell? ⟨go6, (x5_1 : Int).toNat * 5 + 1, none⟩ = some (.string ((rd_T49 y114 x5_1).f1)) := hcc11 1 _ rfl; have hx11_2 : w22.cell? ⟨go6, (x5_1 : Int).toNat * 5 + 2, none⟩ = some (.int .i64 ((rd_T49 y114 x5_1).f2)) := hcc11 2 _ rfl; have hx11_3 : w22.cell? ⟨go6, (x5_1 : Int).toNat * 5 + 3, none⟩ = some (.int .i64 ((rd_T49 y114 x5_1).f3)) := hcc11 3 _ rfl; have hx11_4 : w22.cell? ⟨go6, (x5_1 : Int).toNat * 5 + 4, none⟩ = some (.int .i64 ((rd_T49 y114 x5_1).f4)) := hcc11 4 _ rfl; have hf11_0 : w22.frozen? ⟨go6, (x5_1 : Int).toNat * 5, none⟩ = false := hfr11 0; have hf11_1 : w22.frozen? ⟨go6, (x5_1 : Int).toNat * 5 + 1, none⟩ = false := hfr11 1; have hf11_2 : w22.frozen? ⟨go6, (x5_1 : Int).toNat * 5 + 2, none⟩ = false := hfr11 2; have hf11_3 : w22.frozen? ⟨go6, (x5_1 : Int).toNat * 5 + 3, none⟩ = false := hfr11 3; have hf11_4 : w22.frozen? ⟨go6, (x5_1 : Int).toNat * 5 + 4, none⟩ = false := hfr11 4; clear hcl11 hcc11 hfr11 hM11; replace p11 := eq_true p11; replace q11 := eq_true q11; have HX23 := ra (show Kd.R k49 49 w22 w0.heap.size (fun k_ => (P0_ k_ ∨ w.heap.size ≤ k_)) (.slice (some ⟨go6, 0, none⟩) x0_1.length co12) y114 from (rq HO_0)); obtain ⟨ce23, hcl23, hM23, hcc23, hfr23⟩ := Kd.R_elem HX23.out z49 (x5_1 : Int) (od) (by have h_ : (x5_1 : Int) < ((x0_1.length : Int) : Int) := od; first | exact h_ | (have e_ := (Kd.R_reads' HO_0.out).1; omega) | simpa using h_); obtain rfl := k49_openM hM23; have HP23 := Kd.R_seg HX23.out (x5_1 : Int) (od) (by have h_ : (x5_1 : Int) < ((x0_1.length : Int) : Int) := od; first | exact h_ | (have e_ := (Kd.R_reads' HO_0.out).1; omega) | simpa using h_) (seg := [.int .i64 (wrap64 ((wrap64 ((wrap64 ((wrap64 (x1_1 + 1)) + 1)) + 1)) + 1))]) (j := 4) hcl23 hcc23 (show 5 ≤ 5 from by decide) (x' := (⟨(rd_T49 y114 x5_1).f0, (rd_T49 y114 x5_1).f1, (rd_T49 y114 x5_1).f2, (rd_T49 y114 x5_1).f3, wrap64 ((wrap64 ((wrap64 ((wrap64 (x1_1 + 1)) + 1)) + 1)) + 1)⟩ : S49)) (k49_mkM _ _ _ (⟨(rd_T49 y114 x5_1).f0, (rd_T49 y114 x5_1).f1, (rd_T49 y114 x5_1).f2, (rd_T49 y114 x5_1).f3, wrap64 ((wrap64 ((wrap64 ((wrap64 (x1_1 + 1)) + 1)) + 1)) + 1)⟩ : S49) ) (fun _ hk => hk); have hx23_4 := hcc23 4 _ rfl; (try simp only [show (k49).sz = 5 from rfl, Nat.mul_one, Nat.add_zero] at hx23_4); have hf23_4 := hfr23 4; (try simp only [show (k49).sz = 5 from rfl, Nat.mul_one, Nat.add_zero] at hf23_4); clear hcl23 hcc23 hfr23 hM23) | ((with_reducible refine gate_store (t := 3) (p := 46) rfl ?_); refine store_event (t := 3) (p := 46) (v := ?vo_w24) (w1 := (w22.setCell ⟨go6, (x5_1 : Int).toNat * 5 + 4, none⟩ (.int .i64 (wrap64 ((wrap64 ((wrap64 ((wrap64 (x1_1 + 1)) + 1)) + 1)) + 1))))) ?hg ?ho ?hn ?hr ?_; (case ho => rfl); (case hg => rfl); (case hn => rfl); (case hr => first | (go_simp; done) | (go_simp; rfl)); intro w24 hw; have hg : w22.grownBy w24 (some go6) := (by rw [hw]; exact HP23.2); have hp_ : Kd.R k49 49 w24 w0.heap.size (fun k_ => (P0_ k_ ∨ w.heap.size ≤ k_)) (.slice (some ⟨go6, 0, none⟩) x0_1.length co12) y115 := (by rw [hw, Ny115.out]; exact HP23.1); clear HP23; have _ := ra (hp_); have _ := ra ((by rw [hw]; exact below_set (HB.out) GB6.out : Below w0.heap.size w0 w24)); have _ := ra (Kept.of_grown (S := (fun k_ => P0_ k_)) hg (by repeat (first | (with_reducible first | exact HK.out | apply Kept.alloc | apply Kept.drewN | apply Kept.drew) | exact HK.out)) (fun k_ e_ => (HO_0.out.1 k_ e_))); clear HO_0 HB HK; rename_i HO_0 HB HK; clear hg hw hp_))
     go_roundg k1
     case measure => have := HK1.out; omega
     case rel => exact ⟨(y115), (wrap64 ((wrap64 ((wrap64 ((wrap64 ((wrap64 (x1_1 + 1)) + 1)) + 1)) + 1)) + 1)), (wrap64 (x5_1 + 1)), rs, rs, H', ⟨by have := HK1.out; omega⟩, ⟨rq HO_0⟩, ⟨by repeat (first | (with_reducible first | exact HK.out | apply Kept.alloc | apply Kept.drewN | apply Kept.drew) | exact HK.out)⟩, ⟨bq⟩⟩
    ·rw [if_neg c5] at H
     exact absurd H (by simp)
   ·rw [if_neg c3] at H
    have c3b0 : decide (x5_1 < (x0_1.length : Int)) = false := decide_eq_false c3
    clear c3
    simp only [Option.some.injEq, Prod.mk.injEq] at H
    obtain ⟨rfl, rfl⟩ := H
    obtain ⟨Ao25, co25, eo25⟩ := Kd.R_slice HO_0.out
    subst eo25
    go_wp2
    go_ret
    exact ⟨re, rq HO_0, bq, by repeat (first | (with_reducible first | exact HK.out | apply Kept.alloc | apply Kept.drewN | apply Kept.drew) | exact HK.out)⟩
def laws_heldProbeClashS.T4 : Bool × List (List Nat × List Nat) := (true, [([], []), ([], []), ([0, 1], [0, 1]), ([2], [2]), ([3], [3]), ([], []), ([5], [5]), ([4, 6], [4, 6])])
def laws_heldProbeClashS.B4 : List Nat := [0, 0, 3, 7, 15, 0, 32, 127]
theorem laws_heldProbeClashS.tab4 : rtab .any (opsOf Try.f17 4) = laws_heldProbeClashS.T4 := by kernel_rfl
theorem laws_heldProbeClashS.bits4 : waitsOk laws_heldProbeClashS.T4.2 laws_heldProbeClashS.B4 = true := by kernel_rfl
def laws_heldProbeClashS.T7 : Bool × List (List Nat × List Nat) := (true, [([], []), ([], []), ([0, 1], [0, 1]), ([2], [2]), ([3], [3]), ([], []), ([5], [5]), ([4, 6], [4, 6])])
def laws_heldProbeClashS.B7 : List Nat := [0, 0, 3, 7, 15, 0, 32, 127]
theorem laws_heldProbeClashS.tab7 : rtab .any (opsOf Try.f17 7) = laws_heldProbeClashS.T7 := by kernel_rfl
theorem laws_heldProbeClashS.bits7 : waitsOk laws_heldProbeClashS.T7.2 laws_heldProbeClashS.B7 = true := by kernel_rfl
set_option maxHeartbeats 8000000 in
set_option maxRecDepth 100000 in
theorem laws_heldProbeClashS.calls (k : Nat) (A0 : Option Addr) (c0 : Nat) (l0 : List (S49)) (a1 : Int) (r : Int) (w : World) (hr0 : Kd.C k49 w A0 l0.length l0) (hc0 : l0.length ≤ c0) (h : laws_heldProbeClashS.f k l0 a1 = some r) :
  Calls Try.prog 17 #[.slice A0 l0.length c0, .int .i64 a1] w fun e w' => e = .returned (.int .i64 r) ∧ Below w.heap.size w w' := by
 have HR0 := Aside0.mk hr0
 have HC0 := Aside0.mk hc0
 clear hr0 hc0
 have HB := ra (Below.refl w.heap.size w)
 have H : (laws_heldProbeClashS.l0 k l0 a1 0) = some r := h
 clear h
 have H' := Aside0.mk H
 clear H
 go_enter Try.func17, Try.ntmps17
 go_wp2
 go_loopg [1, 5] k (fun kq v1 v5 w' => ∃ (x1_1 : Int) (x5_1 : Int), v1 = .int .i64 x1_1 ∧ v5 = .int .i64 x5_1 ∧ Aside0 (laws_heldProbeClashS.l0 kq l0 x1_1 x5_1 = some r) ∧ Aside0 (kq ≤ k) ∧ Aside0 (Below w.heap.size w w'))
 case atStart => exact ⟨(a1), (0), rs, rs, H', ⟨Nat.le_refl _⟩, ⟨bq⟩⟩
 case round =>
  clear H'
  obtain ⟨x1_1, x5_1, rfl, rfl, HA, HK1, HB⟩ := hrel
  cases gk with
  | zero => exact absurd HA.out (by simp [laws_heldProbeClashS.l0])
  | succ k1 =>
   have H := HA.out
   clear HA
   simp only [laws_heldProbeClashS.l0] at H
   by_cases c3 : x5_1 < (l0.length : Int)
   ·rw [if_pos c3] at H
    have c3b0 : decide (x5_1 < (l0.length : Int)) = true := decide_eq_true c3
    clear c3
    by_cases c4 : 0 ≤ x5_1
    ·rw [if_pos c4] at H
     have c4b0 : decide (0 ≤ x5_1) = true := decide_eq_true c4
     clear c4
     obtain ⟨t117, A5, H⟩ := bo H
     by_cases c6 : ((rd_T49 l0 x5_1).f0).toList = t117.toList
     ·rw [if_pos c6] at H
      have c6b0 : (((rd_T49 l0 x5_1).f0).toList == t117.toList) = true := beq_iff_eq.mpr c6
      have c6b1 : (((rd_T49 l0 x5_1).f0).toList != t117.toList) = false := bne_eq_false_iff_eq.mpr c6
      clear c6
      obtain ⟨t119, A7, H⟩ := bo H
      by_cases c8 : ((rd_T49 l0 x5_1).f1).toList = t119.toList
      ·rw [if_pos c8] at H
       have c8b0 : (((rd_T49 l0 x5_1).f1).toList == t119.toList) = true := beq_iff_eq.mpr c8
       have c8b1 : (((rd_T49 l0 x5_1).f1).toList != t119.toList) = false := bne_eq_false_iff_eq.mpr c8
       clear c8
       by_cases c9 : ((rd_T49 l0 x5_1).f2) = (wrap64 ((wrap64 (x1_1 + 1)) + 1))
       ·rw [if_pos c9] at H
        have c9b0 : (((rd_T49 l0 x5_1).f2) == (wrap64 ((wrap64 (x1_1 + 1)) + 1))) = true := beq_iff_eq.mpr c9
        have c9b1 : (((rd_T49 l0 x5_1).f2) != (wrap64 ((wrap64 (x1_1 + 1)) + 1))) = false := bne_eq_false_iff_eq.mpr c9
        clear c9
        by_cases c10 : ((rd_T49 l0 x5_1).f3) = (wrap64 ((wrap64 ((wrap64 (x1_1 + 1)) + 1)) + 1))
        ·rw [if_pos c10] at H
         have c10b0 : (((rd_T49 l0 x5_1).f3) == (wrap64 ((wrap64 ((wrap64 (x1_1 + 1)) + 1)) + 1))) = true := beq_iff_eq.mpr c10
         have c10b1 : (((rd_T49 l0 x5_1).f3) != (wrap64 ((wrap64 ((wrap64 (x1_1 + 1)) + 1)) + 1))) = false := bne_eq_false_iff_eq.mpr c10
         clear c10
         by_cases c11 : ((rd_T49 l0 x5_1).f4) = (wrap64 ((wrap64 ((wrap64 ((wrap64 (x1_1 + 1)) + 1)) + 1)) + 1))
         ·rw [if_pos c11] at H
          have c11b0 : (((rd_T49 l0 x5_1).f4) == (wrap64 ((wrap64 ((wrap64 ((wrap64 (x1_1 + 1)) + 1)) + 1)) + 1))) = true := beq_iff_eq.mpr c11
          have c11b1 : (((rd_T49 l0 x5_1).f4) != (wrap64 ((wrap64 ((wrap64 ((wrap64 (x1_1 + 1)) + 1)) + 1)) + 1))) = false := bne_eq_false_iff_eq.mpr c11
          clear c11
          have H' := Aside0.mk H
          clear H
          try go_wp2
          have _ := ra (below_drew1 HB.out)
          clear HB
          rename_i HB
          have p116 : 0 ≤ (x5_1 : Int) := od
          have q116 : x5_1 < (l0.length : Int) := od
          obtain ⟨ad116, e116, hx116_0, hx116_1, hx116_2, hx116_3, hx116_4⟩ := at_T49 HR0.out x5_1 p116 q116
          have hw116_4 := hx116_4
          have hw116_3 := hx116_3
          have hw116_2 := hx116_2
          have hw116_1 := hx116_1
          have hw116_0 := hx116_0
          cases e116
          replace hx116_0 := hc HB hx116_0
          replace hx116_1 := hc HB hx116_1
          replace hx116_2 := hc HB hx116_2
          replace hx116_3 := hc HB hx116_3
          replace hx116_4 := hc HB hx116_4
          replace p116 := eq_true p116
          replace q116 := eq_true q116
          refine start_ (n := 8) (S := fun w' => w'.cell? (ad116.add ((x5_1).toNat * 5)) = some (.string ((rd_T49 l0 x5_1).f0)) ∧ w'.cell? ⟨(ad116.add ((x5_1).toNat * 5)).block, (ad116.add ((x5_1).toNat * 5)).off + 1, none⟩ = some (.string ((rd_T49 l0 x5_1).f1)) ∧ w'.cell? ⟨(ad116.add ((x5_1).toNat * 5)).block, (ad116.add ((x5_1).toNat * 5)).off + 2, none⟩ = some (.int .i64 ((rd_T49 l0 x5_1).f2)) ∧ w'.cell? ⟨(ad116.add ((x5_1).toNat * 5)).block, (ad116.add ((x5_1).toNat * 5)).off + 3, none⟩ = some (.int .i64 ((rd_T49 l0 x5_1).f3)) ∧ w'.cell? ⟨(ad116.add ((x5_1).toNat * 5)).block, (ad116.add ((x5_1).toNat * 5)).off + 4, none⟩ = some (.int .i64 ((rd_T49 l0 x5_1).f4))) (ds := []) (bl 8 0) (by kernel_rfl) rfl rfl ⟨(hc HB hw116_0), (hc HB hw116_1), (hc HB hw116_2), (hc HB hw116_3), (hc HB hw116_4)⟩ (fun hHeld => ?_); refine with_tabW laws_heldProbeClashS.tab4 laws_heldProbeClashS.bits4 (fun HT_ HW_ => ?_)
          generalize wr.drew = w12 at HB hx116_0 hx116_1 hx116_2 hx116_3 hx116_4 hHeld ⊢
          refine pu 0 12 (bl 8 1) ?_
          refine pu 1 13 (bl 8 3) ?_
          refine pu 2 14 (bl 8 7) ?_
          refine pu 3 15 (bl 8 15) ?_
          refine pu 5 17 (bl 8 47) ?_
          refine tk 4 16 (bl 8 63) ?_ hHeld
          refine oe 6 18 (bl 8 127) (fun K hK => ?_)
          refine gs Try.func48 #[.int .i64 x1_1] ?_
          with_reducible refine (laws_markText.calls k1 x1_1 t117 _ A5.out).mono ?_
          rintro e w13 ⟨rfl, hb⟩
          refine ⟨_, rfl, ?_⟩
          have _ := bs hb
          clear HB
          rename_i HB
          (try clear hb)
          (try clear hb2)
          (try clear hk)
          (try clear hi)
          refine hK.out _ _ ⟨(hc HB hw116_0), (hc HB hw116_1), (hc HB hw116_2), (hc HB hw116_3), (hc HB hw116_4)⟩ (fun hHeld => ?_)
          clear hK K
          refine nm 18 ?_
          refine pu 7 19 (bl 8 255) ?_
          refine done_ (done_of HT_.out (by kernel_rfl)) ?_
          try go_wp2
          have _ := ra (below_drew1 HB.out)
          clear HB
          rename_i HB
          have p118 : 0 ≤ (x5_1 : Int) := od
          have q118 : x5_1 < (l0.length : Int) := od
          obtain ⟨ad118, e118, hx118_0, hx118_1, hx118_2, hx118_3, hx118_4⟩ := at_T49 HR0.out x5_1 p118 q118
          have hw118_4 := hx118_4
          have hw118_3 := hx118_3
          have hw118_2 := hx118_2
          have hw118_1 := hx118_1
          have hw118_0 := hx118_0
          obtain rfl : ad116 = ad118 := (by injection e118)
          replace hx118_0 := hc HB hx118_0
          replace hx118_1 := hc HB hx118_1
          replace hx118_2 := hc HB hx118_2
          replace hx118_3 := hc HB hx118_3
          replace hx118_4 := hc HB hx118_4
          replace p118 := eq_true p118
          replace q118 := eq_true q118
          refine start_ (n := 8) (S := fun w' => w'.cell? (ad116.add ((x5_1).toNat * 5)) = some (.string ((rd_T49 l0 x5_1).f0)) ∧ w'.cell? ⟨(ad116.add ((x5_1).toNat * 5)).block, (ad116.add ((x5_1).toNat * 5)).off + 1, none⟩ = some (.string ((rd_T49 l0 x5_1).f1)) ∧ w'.cell? ⟨(ad116.add ((x5_1).toNat * 5)).block, (ad116.add ((x5_1).toNat * 5)).off + 2, none⟩ = some (.int .i64 ((rd_T49 l0 x5_1).f2)) ∧ w'.cell? ⟨(ad116.add ((x5_1).toNat * 5)).block, (ad116.add ((x5_1).toNat * 5)).off + 3, none⟩ = some (.int .i64 ((rd_T49 l0 x5_1).f3)) ∧ w'.cell? ⟨(ad116.add ((x5_1).toNat * 5)).block, (ad116.add ((x5_1).toNat * 5)).off + 4, none⟩ = some (.int .i64 ((rd_T49 l0 x5_1).f4))) (ds := []) (bl 8 0) (by kernel_rfl) rfl rfl ⟨(hc HB hw118_0), (hc HB hw118_1), (hc HB hw118_2), (hc HB hw118_3), (hc HB hw118_4)⟩ (fun hHeld => ?_); refine with_tabW laws_heldProbeClashS.tab7 laws_heldProbeClashS.bits7 (fun HT_ HW_ => ?_)
          generalize w13.drew = w14 at HB hx118_0 hx118_1 hx118_2 hx118_3 hx118_4 hHeld ⊢
          refine pu 0 22 (bl 8 1) ?_
          refine pu 1 23 (bl 8 3) ?_
          refine pu 2 24 (bl 8 7) ?_
          refine pu 3 25 (bl 8 15) ?_
          refine pu 5 27 (bl 8 47) ?_
          refine tk 4 26 (bl 8 63) ?_ hHeld
          refine oe 6 28 (bl 8 127) (fun K hK => ?_)
          refine gs Try.func48 #[.int .i64 (wrap64 (x1_1 + 1))] ?_
          with_reducible refine (laws_markText.calls k1 (wrap64 (x1_1 + 1)) t119 _ A7.out).mono ?_
          rintro e w15 ⟨rfl, hb⟩
          refine ⟨_, rfl, ?_⟩
          have _ := bs hb
          clear HB
          rename_i HB
          (try clear hb)
          (try clear hb2)
          (try clear hk)
          (try clear hi)
          refine hK.out _ _ ⟨(hc HB hw118_0), (hc HB hw118_1), (hc HB hw118_2), (hc HB hw118_3), (hc HB hw118_4)⟩ (fun hHeld => ?_)
          clear hK K
          refine nm 28 ?_
          refine pu 7 29 (bl 8 255) ?_
          refine done_ (done_of HT_.out (by kernel_rfl)) ?_
          have p120 : 0 ≤ (x5_1 : Int) := od
          have q120 : x5_1 < (l0.length : Int) := od
          obtain ⟨ad120, e120, hx120_0, hx120_1, hx120_2, hx120_3, hx120_4⟩ := at_T49 HR0.out x5_1 p120 q120
          obtain rfl : ad116 = ad120 := (by injection e120)
          replace hx120_0 := hc HB hx120_0
          replace hx120_1 := hc HB hx120_1
          replace hx120_2 := hc HB hx120_2
          replace hx120_3 := hc HB hx120_3
          replace hx120_4 := hc HB hx120_4
          replace p120 := eq_true p120
          replace q120 := eq_true q120
          have p121 : 0 ≤ (x5_1 : Int) := od
          have q121 : x5_1 < (l0.length : Int) := od
          obtain ⟨ad121, e121, hx121_0, hx121_1, hx121_2, hx121_3, hx121_4⟩ := at_T49 HR0.out x5_1 p121 q121
          obtain rfl : ad116 = ad121 := (by injection e121)
          replace hx121_0 := hc HB hx121_0
          replace hx121_1 := hc HB hx121_1
          replace hx121_2 := hc HB hx121_2
          replace hx121_3 := hc HB hx121_3
          replace hx121_4 := hc HB hx121_4
          replace p121 := eq_true p121
          replace q121 := eq_true q121
          have p122 : 0 ≤ (x5_1 : Int) := od
          have q122 : x5_1 < (l0.length : Int) := od
          obtain ⟨ad122, e122, hx122_0, hx122_1, hx122_2, hx122_3, hx122_4⟩ := at_T49 HR0.out x5_1 p122 q122
          obtain rfl : ad116 = ad122 := (by injection e122)
          replace hx122_0 := hc HB hx122_0
          replace hx122_1 := hc HB hx122_1
          replace hx122_2 := hc HB hx122_2
          replace hx122_3 := hc HB hx122_3
          replace hx122_4 := hc HB hx122_4
          replace p122 := eq_true p122
          replace q122 := eq_true q122
          try go_wp2
          go_roundg k1
          case measure => have := HK1.out; omega
          case rel => exact ⟨(wrap64 ((wrap64 ((wrap64 ((wrap64 ((wrap64 (x1_1 + 1)) + 1)) + 1)) + 1)) + 1)), (wrap64 (x5_1 + 1)), rs, rs, H', ⟨by have := HK1.out; omega⟩, ⟨bq⟩⟩
         ·rw [if_neg c11] at H
          have c11b0 : (((rd_T49 l0 x5_1).f4) == (wrap64 ((wrap64 ((wrap64 ((wrap64 (x1_1 + 1)) + 1)) + 1)) + 1))) = false := beq_eq_false_iff_ne.mpr c11
          have c11b1 : (((rd_T49 l0 x5_1).f4) != (wrap64 ((wrap64 ((wrap64 ((wrap64 (x1_1 + 1)) + 1)) + 1)) + 1))) = true := bne_iff_ne.mpr c11
          obtain rfl := Option.some.inj H
          try go_wp2
          have _ := ra (below_drew1 HB.out)
          clear HB
          rename_i HB
          have p116 : 0 ≤ (x5_1 : Int) := od
          have q116 : x5_1 < (l0.length : Int) := od
          obtain ⟨ad116, e116, hx116_0, hx116_1, hx116_2, hx116_3, hx116_4⟩ := at_T49 HR0.out x5_1 p116 q116
          have hw116_4 := hx116_4
          have hw116_3 := hx116_3
          have hw116_2 := hx116_2
          have hw116_1 := hx116_1
          have hw116_0 := hx116_0
          cases e116
          replace hx116_0 := hc HB hx116_0
          replace hx116_1 := hc HB hx116_1
          replace hx116_2 := hc HB hx116_2
          replace hx116_3 := hc HB hx116_3
          replace hx116_4 := hc HB hx116_4
          replace p116 := eq_true p116
          replace q116 := eq_true q116
          refine start_ (n := 8) (S := fun w' => w'.cell? (ad116.add ((x5_1).toNat * 5)) = some (.string ((rd_T49 l0 x5_1).f0)) ∧ w'.cell? ⟨(ad116.add ((x5_1).toNat * 5)).block, (ad116.add ((x5_1).toNat * 5)).off + 1, none⟩ = some (.string ((rd_T49 l0 x5_1).f1)) ∧ w'.cell? ⟨(ad116.add ((x5_1).toNat * 5)).block, (ad116.add ((x5_1).toNat * 5)).off + 2, none⟩ = some (.int .i64 ((rd_T49 l0 x5_1).f2)) ∧ w'.cell? ⟨(ad116.add ((x5_1).toNat * 5)).block, (ad116.add ((x5_1).toNat * 5)).off + 3, none⟩ = some (.int .i64 ((rd_T49 l0 x5_1).f3)) ∧ w'.cell? ⟨(ad116.add ((x5_1).toNat * 5)).block, (ad116.add ((x5_1).toNat * 5)).off + 4, none⟩ = some (.int .i64 ((rd_T49 l0 x5_1).f4))) (ds := []) (bl 8 0) (by kernel_rfl) rfl rfl ⟨(hc HB hw116_0), (hc HB hw116_1), (hc HB hw116_2), (hc HB hw116_3), (hc HB hw116_4)⟩ (fun hHeld => ?_); refine with_tabW laws_heldProbeClashS.tab4 laws_heldProbeClashS.bits4 (fun HT_ HW_ => ?_)
          generalize wr.drew = w16 at HB hx116_0 hx116_1 hx116_2 hx116_3 hx116_4 hHeld ⊢
          refine pu 0 12 (bl 8 1) ?_
          refine pu 1 13 (bl 8 3) ?_
          refine pu 2 14 (bl 8 7) ?_
          refine pu 3 15 (bl 8 15) ?_
          refine pu 5 17 (bl 8 47) ?_
          refine tk 4 16 (bl 8 63) ?_ hHeld
          refine oe 6 18 (bl 8 127) (fun K hK => ?_)
          refine gs Try.func48 #[.int .i64 x1_1] ?_
          with_reducible refine (laws_markText.calls k1 x1_1 t117 _ A5.out).mono ?_
          rintro e w17 ⟨rfl, hb⟩
          refine ⟨_, rfl, ?_⟩
          have _ := bs hb
          clear HB
          rename_i HB
          (try clear hb)
          (try clear hb2)
          (try clear hk)
          (try clear hi)
          refine hK.out _ _ ⟨(hc HB hw116_0), (hc HB hw116_1), (hc HB hw116_2), (hc HB hw116_3), (hc HB hw116_4)⟩ (fun hHeld => ?_)
          clear hK K
          refine nm 18 ?_
          refine pu 7 19 (bl 8 255) ?_
          refine done_ (done_of HT_.out (by kernel_rfl)) ?_
          try go_wp2
          have _ := ra (below_drew1 HB.out)
          clear HB
          rename_i HB
          have p118 : 0 ≤ (x5_1 : Int) := od
          have q118 : x5_1 < (l0.length : Int) := od
          obtain ⟨ad118, e118, hx118_0, hx118_1, hx118_2, hx118_3, hx118_4⟩ := at_T49 HR0.out x5_1 p118 q118
          have hw118_4 := hx118_4
          have hw118_3 := hx118_3
          have hw118_2 := hx118_2
          have hw118_1 := hx118_1
          have hw118_0 := hx118_0
          obtain rfl : ad116 = ad118 := (by injection e118)
          replace hx118_0 := hc HB hx118_0
          replace hx118_1 := hc HB hx118_1
          replace hx118_2 := hc HB hx118_2
          replace hx118_3 := hc HB hx118_3
          replace hx118_4 := hc HB hx118_4
          replace p118 := eq_true p118
          replace q118 := eq_true q118
          refine start_ (n := 8) (S := fun w' => w'.cell? (ad116.add ((x5_1).toNat * 5)) = some (.string ((rd_T49 l0 x5_1).f0)) ∧ w'.cell? ⟨(ad116.add ((x5_1).toNat * 5)).block, (ad116.add ((x5_1).toNat * 5)).off + 1, none⟩ = some (.string ((rd_T49 l0 x5_1).f1)) ∧ w'.cell? ⟨(ad116.add ((x5_1).toNat * 5)).block, (ad116.add ((x5_1).toNat * 5)).off + 2, none⟩ = some (.int .i64 ((rd_T49 l0 x5_1).f2)) ∧ w'.cell? ⟨(ad116.add ((x5_1).toNat * 5)).block, (ad116.add ((x5_1).toNat * 5)).off + 3, none⟩ = some (.int .i64 ((rd_T49 l0 x5_1).f3)) ∧ w'.cell? ⟨(ad116.add ((x5_1).toNat * 5)).block, (ad116.add ((x5_1).toNat * 5)).off + 4, none⟩ = some (.int .i64 ((rd_T49 l0 x5_1).f4))) (ds := []) (bl 8 0) (by kernel_rfl) rfl rfl ⟨(hc HB hw118_0), (hc HB hw118_1), (hc HB hw118_2), (hc HB hw118_3), (hc HB hw118_4)⟩ (fun hHeld => ?_); refine with_tabW laws_heldProbeClashS.tab7 laws_heldProbeClashS.bits7 (fun HT_ HW_ => ?_)
          generalize w17.drew = w18 at HB hx118_0 hx118_1 hx118_2 hx118_3 hx118_4 hHeld ⊢
          refine pu 0 22 (bl 8 1) ?_
          refine pu 1 23 (bl 8 3) ?_
          refine pu 2 24 (bl 8 7) ?_
          refine pu 3 25 (bl 8 15) ?_
          refine pu 5 27 (bl 8 47) ?_
          refine tk 4 26 (bl 8 63) ?_ hHeld
          refine oe 6 28 (bl 8 127) (fun K hK => ?_)
          refine gs Try.func48 #[.int .i64 (wrap64 (x1_1 + 1))] ?_
          with_reducible refine (laws_markText.calls k1 (wrap64 (x1_1 + 1)) t119 _ A7.out).mono ?_
          rintro e w19 ⟨rfl, hb⟩
          refine ⟨_, rfl, ?_⟩
          have _ := bs hb
          clear HB
          rename_i HB
          (try clear hb)
          (try clear hb2)
          (try clear hk)
          (try clear hi)
          refine hK.out _ _ ⟨(hc HB hw118_0), (hc HB hw118_1), (hc HB hw118_2), (hc HB hw118_3), (hc HB hw118_4)⟩ (fun hHeld => ?_)
          clear hK K
          refine nm 28 ?_
          refine pu 7 29 (bl 8 255) ?_
          refine done_ (done_of HT_.out (by kernel_rfl)) ?_
          have p120 : 0 ≤ (x5_1 : Int) := od
          have q120 : x5_1 < (l0.length : Int) := od
          obtain ⟨ad120, e120, hx120_0, hx120_1, hx120_2, hx120_3, hx120_4⟩ := at_T49 HR0.out x5_1 p120 q120
          obtain rfl : ad116 = ad120 := (by injection e120)
          replace hx120_0 := hc HB hx120_0
          replace hx120_1 := hc HB hx120_1
          replace hx120_2 := hc HB hx120_2
          replace hx120_3 := hc HB hx120_3
          replace hx120_4 := hc HB hx120_4
          replace p120 := eq_true p120
          replace q120 := eq_true q120
          have p121 : 0 ≤ (x5_1 : Int) := od
          have q121 : x5_1 < (l0.length : Int) := od
          obtain ⟨ad121, e121, hx121_0, hx121_1, hx121_2, hx121_3, hx121_4⟩ := at_T49 HR0.out x5_1 p121 q121
          obtain rfl : ad116 = ad121 := (by injection e121)
          replace hx121_0 := hc HB hx121_0
          replace hx121_1 := hc HB hx121_1
          replace hx121_2 := hc HB hx121_2
          replace hx121_3 := hc HB hx121_3
          replace hx121_4 := hc HB hx121_4
          replace p121 := eq_true p121
          replace q121 := eq_true q121
          have p122 : 0 ≤ (x5_1 : Int) := od
          have q122 : x5_1 < (l0.length : Int) := od
          obtain ⟨ad122, e122, hx122_0, hx122_1, hx122_2, hx122_3, hx122_4⟩ := at_T49 HR0.out x5_1 p122 q122
          obtain rfl : ad116 = ad122 := (by injection e122)
          replace hx122_0 := hc HB hx122_0
          replace hx122_1 := hc HB hx122_1
          replace hx122_2 := hc HB hx122_2
          replace hx122_3 := hc HB hx122_3
          replace hx122_4 := hc HB hx122_4
          replace p122 := eq_true p122
          replace q122 := eq_true q122
          try go_wp2
          go_ret
          exact ⟨re, bq⟩
        ·rw [if_neg c10] at H
         have c10b0 : (((rd_T49 l0 x5_1).f3) == (wrap64 ((wrap64 ((wrap64 (x1_1 + 1)) + 1)) + 1))) = false := beq_eq_false_iff_ne.mpr c10
         have c10b1 : (((rd_T49 l0 x5_1).f3) != (wrap64 ((wrap64 ((wrap64 (x1_1 + 1)) + 1)) + 1))) = true := bne_iff_ne.mpr c10
         obtain rfl := Option.some.inj H
         try go_wp2
         have _ := ra (below_drew1 HB.out)
         clear HB
         rename_i HB
         have p116 : 0 ≤ (x5_1 : Int) := od
         have q116 : x5_1 < (l0.length : Int) := od
         obtain ⟨ad116, e116, hx116_0, hx116_1, hx116_2, hx116_3, hx116_4⟩ := at_T49 HR0.out x5_1 p116 q116
         have hw116_4 := hx116_4
         have hw116_3 := hx116_3
         have hw116_2 := hx116_2
         have hw116_1 := hx116_1
         have hw116_0 := hx116_0
         cases e116
         replace hx116_0 := hc HB hx116_0
         replace hx116_1 := hc HB hx116_1
         replace hx116_2 := hc HB hx116_2
         replace hx116_3 := hc HB hx116_3
         replace hx116_4 := hc HB hx116_4
         replace p116 := eq_true p116
         replace q116 := eq_true q116
         refine start_ (n := 8) (S := fun w' => w'.cell? (ad116.add ((x5_1).toNat * 5)) = some (.string ((rd_T49 l0 x5_1).f0)) ∧ w'.cell? ⟨(ad116.add ((x5_1).toNat * 5)).block, (ad116.add ((x5_1).toNat * 5)).off + 1, none⟩ = some (.string ((rd_T49 l0 x5_1).f1)) ∧ w'.cell? ⟨(ad116.add ((x5_1).toNat * 5)).block, (ad116.add ((x5_1).toNat * 5)).off + 2, none⟩ = some (.int .i64 ((rd_T49 l0 x5_1).f2)) ∧ w'.cell? ⟨(ad116.add ((x5_1).toNat * 5)).block, (ad116.add ((x5_1).toNat * 5)).off + 3, none⟩ = some (.int .i64 ((rd_T49 l0 x5_1).f3)) ∧ w'.cell? ⟨(ad116.add ((x5_1).toNat * 5)).block, (ad116.add ((x5_1).toNat * 5)).off + 4, none⟩ = some (.int .i64 ((rd_T49 l0 x5_1).f4))) (ds := []) (bl 8 0) (by kernel_rfl) rfl rfl ⟨(hc HB hw116_0), (hc HB hw116_1), (hc HB hw116_2), (hc HB hw116_3), (hc HB hw116_4)⟩ (fun hHeld => ?_); refine with_tabW laws_heldProbeClashS.tab4 laws_heldProbeClashS.bits4 (fun HT_ HW_ => ?_)
         generalize wr.drew = w20 at HB hx116_0 hx116_1 hx116_2 hx116_3 hx116_4 hHeld ⊢
         refine pu 0 12 (bl 8 1) ?_
         refine pu 1 13 (bl 8 3) ?_
         refine pu 2 14 (bl 8 7) ?_
         refine pu 3 15 (bl 8 15) ?_
         refine pu 5 17 (bl 8 47) ?_
         refine tk 4 16 (bl 8 63) ?_ hHeld
         refine oe 6 18 (bl 8 127) (fun K hK => ?_)
         refine gs Try.func48 #[.int .i64 x1_1] ?_
         with_reducible refine (laws_markText.calls k1 x1_1 t117 _ A5.out).mono ?_
         rintro e w21 ⟨rfl, hb⟩
         refine ⟨_, rfl, ?_⟩
         have _ := bs hb
         clear HB
         rename_i HB
         (try clear hb)
         (try clear hb2)
         (try clear hk)
         (try clear hi)
         refine hK.out _ _ ⟨(hc HB hw116_0), (hc HB hw116_1), (hc HB hw116_2), (hc HB hw116_3), (hc HB hw116_4)⟩ (fun hHeld => ?_)
         clear hK K
         refine nm 18 ?_
         refine pu 7 19 (bl 8 255) ?_
         refine done_ (done_of HT_.out (by kernel_rfl)) ?_
         try go_wp2
         have _ := ra (below_drew1 HB.out)
         clear HB
         rename_i HB
         have p118 : 0 ≤ (x5_1 : Int) := od
         have q118 : x5_1 < (l0.length : Int) := od
         obtain ⟨ad118, e118, hx118_0, hx118_1, hx118_2, hx118_3, hx118_4⟩ := at_T49 HR0.out x5_1 p118 q118
         have hw118_4 := hx118_4
         have hw118_3 := hx118_3
         have hw118_2 := hx118_2
         have hw118_1 := hx118_1
         have hw118_0 := hx118_0
         obtain rfl : ad116 = ad118 := (by injection e118)
         replace hx118_0 := hc HB hx118_0
         replace hx118_1 := hc HB hx118_1
         replace hx118_2 := hc HB hx118_2
         replace hx118_3 := hc HB hx118_3
         replace hx118_4 := hc HB hx118_4
         replace p118 := eq_true p118
         replace q118 := eq_true q118
         refine start_ (n := 8) (S := fun w' => w'.cell? (ad116.add ((x5_1).toNat * 5)) = some (.string ((rd_T49 l0 x5_1).f0)) ∧ w'.cell? ⟨(ad116.add ((x5_1).toNat * 5)).block, (ad116.add ((x5_1).toNat * 5)).off + 1, none⟩ = some (.string ((rd_T49 l0 x5_1).f1)) ∧ w'.cell? ⟨(ad116.add ((x5_1).toNat * 5)).block, (ad116.add ((x5_1).toNat * 5)).off + 2, none⟩ = some (.int .i64 ((rd_T49 l0 x5_1).f2)) ∧ w'.cell? ⟨(ad116.add ((x5_1).toNat * 5)).block, (ad116.add ((x5_1).toNat * 5)).off + 3, none⟩ = some (.int .i64 ((rd_T49 l0 x5_1).f3)) ∧ w'.cell? ⟨(ad116.add ((x5_1).toNat * 5)).block, (ad116.add ((x5_1).toNat * 5)).off + 4, none⟩ = some (.int .i64 ((rd_T49 l0 x5_1).f4))) (ds := []) (bl 8 0) (by kernel_rfl) rfl rfl ⟨(hc HB hw118_0), (hc HB hw118_1), (hc HB hw118_2), (hc HB hw118_3), (hc HB hw118_4)⟩ (fun hHeld => ?_); refine with_tabW laws_heldProbeClashS.tab7 laws_heldProbeClashS.bits7 (fun HT_ HW_ => ?_)
         generalize w21.drew = w22 at HB hx118_0 hx118_1 hx118_2 hx118_3 hx118_4 hHeld ⊢
         refine pu 0 22 (bl 8 1) ?_
         refine pu 1 23 (bl 8 3) ?_
         refine pu 2 24 (bl 8 7) ?_
         refine pu 3 25 (bl 8 15) ?_
         refine pu 5 27 (bl 8 47) ?_
         refine tk 4 26 (bl 8 63) ?_ hHeld
         refine oe 6 28 (bl 8 127) (fun K hK => ?_)
         refine gs Try.func48 #[.int .i64 (wrap64 (x1_1 + 1))] ?_
         with_reducible refine (laws_markText.calls k1 (wrap64 (x1_1 + 1)) t119 _ A7.out).mono ?_
         rintro e w23 ⟨rfl, hb⟩
         refine ⟨_, rfl, ?_⟩
         have _ := bs hb
         clear HB
         rename_i HB
         (try clear hb)
         (try clear hb2)
         (try clear hk)
         (try clear hi)
         refine hK.out _ _ ⟨(hc HB hw118_0), (hc HB hw118_1), (hc HB hw118_2), (hc HB hw118_3), (hc HB hw118_4)⟩ (fun hHeld => ?_)
         clear hK K
         refine nm 28 ?_
         refine pu 7 29 (bl 8 255) ?_
         refine done_ (done_of HT_.out (by kernel_rfl)) ?_
         have p120 : 0 ≤ (x5_1 : Int) := od
         have q120 : x5_1 < (l0.length : Int) := od
         obtain ⟨ad120, e120, hx120_0, hx120_1, hx120_2, hx120_3, hx120_4⟩ := at_T49 HR0.out x5_1 p120 q120
         obtain rfl : ad116 = ad120 := (by injection e120)
         replace hx120_0 := hc HB hx120_0
         replace hx120_1 := hc HB hx120_1
         replace hx120_2 := hc HB hx120_2
         replace hx120_3 := hc HB hx120_3
         replace hx120_4 := hc HB hx120_4
         replace p120 := eq_true p120
         replace q120 := eq_true q120
         have p121 : 0 ≤ (x5_1 : Int) := od
         have q121 : x5_1 < (l0.length : Int) := od
         obtain ⟨ad121, e121, hx121_0, hx121_1, hx121_2, hx121_3, hx121_4⟩ := at_T49 HR0.out x5_1 p121 q121
         obtain rfl : ad116 = ad121 := (by injection e121)
         replace hx121_0 := hc HB hx121_0
         replace hx121_1 := hc HB hx121_1
         replace hx121_2 := hc HB hx121_2
         replace hx121_3 := hc HB hx121_3
         replace hx121_4 := hc HB hx121_4
         replace p121 := eq_true p121
         replace q121 := eq_true q121
         try go_wp2
         go_ret
         exact ⟨re, bq⟩
       ·rw [if_neg c9] at H
        have c9b0 : (((rd_T49 l0 x5_1).f2) == (wrap64 ((wrap64 (x1_1 + 1)) + 1))) = false := beq_eq_false_iff_ne.mpr c9
        have c9b1 : (((rd_T49 l0 x5_1).f2) != (wrap64 ((wrap64 (x1_1 + 1)) + 1))) = true := bne_iff_ne.mpr c9
        obtain rfl := Option.some.inj H
        try go_wp2
        have _ := ra (below_drew1 HB.out)
        clear HB
        rename_i HB
        have p116 : 0 ≤ (x5_1 : Int) := od
        have q116 : x5_1 < (l0.length : Int) := od
        obtain ⟨ad116, e116, hx116_0, hx116_1, hx116_2, hx116_3, hx116_4⟩ := at_T49 HR0.out x5_1 p116 q116
        have hw116_4 := hx116_4
        have hw116_3 := hx116_3
        have hw116_2 := hx116_2
        have hw116_1 := hx116_1
        have hw116_0 := hx116_0
        cases e116
        replace hx116_0 := hc HB hx116_0
        replace hx116_1 := hc HB hx116_1
        replace hx116_2 := hc HB hx116_2
        replace hx116_3 := hc HB hx116_3
        replace hx116_4 := hc HB hx116_4
        replace p116 := eq_true p116
        replace q116 := eq_true q116
        refine start_ (n := 8) (S := fun w' => w'.cell? (ad116.add ((x5_1).toNat * 5)) = some (.string ((rd_T49 l0 x5_1).f0)) ∧ w'.cell? ⟨(ad116.add ((x5_1).toNat * 5)).block, (ad116.add ((x5_1).toNat * 5)).off + 1, none⟩ = some (.string ((rd_T49 l0 x5_1).f1)) ∧ w'.cell? ⟨(ad116.add ((x5_1).toNat * 5)).block, (ad116.add ((x5_1).toNat * 5)).off + 2, none⟩ = some (.int .i64 ((rd_T49 l0 x5_1).f2)) ∧ w'.cell? ⟨(ad116.add ((x5_1).toNat * 5)).block, (ad116.add ((x5_1).toNat * 5)).off + 3, none⟩ = some (.int .i64 ((rd_T49 l0 x5_1).f3)) ∧ w'.cell? ⟨(ad116.add ((x5_1).toNat * 5)).block, (ad116.add ((x5_1).toNat * 5)).off + 4, none⟩ = some (.int .i64 ((rd_T49 l0 x5_1).f4))) (ds := []) (bl 8 0) (by kernel_rfl) rfl rfl ⟨(hc HB hw116_0), (hc HB hw116_1), (hc HB hw116_2), (hc HB hw116_3), (hc HB hw116_4)⟩ (fun hHeld => ?_); refine with_tabW laws_heldProbeClashS.tab4 laws_heldProbeClashS.bits4 (fun HT_ HW_ => ?_)
        generalize wr.drew = w24 at HB hx116_0 hx116_1 hx116_2 hx116_3 hx116_4 hHeld ⊢
        refine pu 0 12 (bl 8 1) ?_
        refine pu 1 13 (bl 8 3) ?_
        refine pu 2 14 (bl 8 7) ?_
        refine pu 3 15 (bl 8 15) ?_
        refine pu 5 17 (bl 8 47) ?_
        refine tk 4 16 (bl 8 63) ?_ hHeld
        refine oe 6 18 (bl 8 127) (fun K hK => ?_)
        refine gs Try.func48 #[.int .i64 x1_1] ?_
        with_reducible refine (laws_markText.calls k1 x1_1 t117 _ A5.out).mono ?_
        rintro e w25 ⟨rfl, hb⟩
        refine ⟨_, rfl, ?_⟩
        have _ := bs hb
        clear HB
        rename_i HB
        (try clear hb)
        (try clear hb2)
        (try clear hk)
        (try clear hi)
        refine hK.out _ _ ⟨(hc HB hw116_0), (hc HB hw116_1), (hc HB hw116_2), (hc HB hw116_3), (hc HB hw116_4)⟩ (fun hHeld => ?_)
        clear hK K
        refine nm 18 ?_
        refine pu 7 19 (bl 8 255) ?_
        refine done_ (done_of HT_.out (by kernel_rfl)) ?_
        try go_wp2
        have _ := ra (below_drew1 HB.out)
        clear HB
        rename_i HB
        have p118 : 0 ≤ (x5_1 : Int) := od
        have q118 : x5_1 < (l0.length : Int) := od
        obtain ⟨ad118, e118, hx118_0, hx118_1, hx118_2, hx118_3, hx118_4⟩ := at_T49 HR0.out x5_1 p118 q118
        have hw118_4 := hx118_4
        have hw118_3 := hx118_3
        have hw118_2 := hx118_2
        have hw118_1 := hx118_1
        have hw118_0 := hx118_0
        obtain rfl : ad116 = ad118 := (by injection e118)
        replace hx118_0 := hc HB hx118_0
        replace hx118_1 := hc HB hx118_1
        replace hx118_2 := hc HB hx118_2
        replace hx118_3 := hc HB hx118_3
        replace hx118_4 := hc HB hx118_4
        replace p118 := eq_true p118
        replace q118 := eq_true q118
        refine start_ (n := 8) (S := fun w' => w'.cell? (ad116.add ((x5_1).toNat * 5)) = some (.string ((rd_T49 l0 x5_1).f0)) ∧ w'.cell? ⟨(ad116.add ((x5_1).toNat * 5)).block, (ad116.add ((x5_1).toNat * 5)).off + 1, none⟩ = some (.string ((rd_T49 l0 x5_1).f1)) ∧ w'.cell? ⟨(ad116.add ((x5_1).toNat * 5)).block, (ad116.add ((x5_1).toNat * 5)).off + 2, none⟩ = some (.int .i64 ((rd_T49 l0 x5_1).f2)) ∧ w'.cell? ⟨(ad116.add ((x5_1).toNat * 5)).block, (ad116.add ((x5_1).toNat * 5)).off + 3, none⟩ = some (.int .i64 ((rd_T49 l0 x5_1).f3)) ∧ w'.cell? ⟨(ad116.add ((x5_1).toNat * 5)).block, (ad116.add ((x5_1).toNat * 5)).off + 4, none⟩ = some (.int .i64 ((rd_T49 l0 x5_1).f4))) (ds := []) (bl 8 0) (by kernel_rfl) rfl rfl ⟨(hc HB hw118_0), (hc HB hw118_1), (hc HB hw118_2), (hc HB hw118_3), (hc HB hw118_4)⟩ (fun hHeld => ?_); refine with_tabW laws_heldProbeClashS.tab7 laws_heldProbeClashS.bits7 (fun HT_ HW_ => ?_)
        generalize w25.drew = w26 at HB hx118_0 hx118_1 hx118_2 hx118_3 hx118_4 hHeld ⊢
        refine pu 0 22 (bl 8 1) ?_
        refine pu 1 23 (bl 8 3) ?_
        refine pu 2 24 (bl 8 7) ?_
        refine pu 3 25 (bl 8 15) ?_
        refine pu 5 27 (bl 8 47) ?_
        refine tk 4 26 (bl 8 63) ?_ hHeld
        refine oe 6 28 (bl 8 127) (fun K hK => ?_)
        refine gs Try.func48 #[.int .i64 (wrap64 (x1_1 + 1))] ?_
        with_reducible refine (laws_markText.calls k1 (wrap64 (x1_1 + 1)) t119 _ A7.out).mono ?_
        rintro e w27 ⟨rfl, hb⟩
        refine ⟨_, rfl, ?_⟩
        have _ := bs hb
        clear HB
        rename_i HB
        (try clear hb)
        (try clear hb2)
        (try clear hk)
        (try clear hi)
        refine hK.out _ _ ⟨(hc HB hw118_0), (hc HB hw118_1), (hc HB hw118_2), (hc HB hw118_3), (hc HB hw118_4)⟩ (fun hHeld => ?_)
        clear hK K
        refine nm 28 ?_
        refine pu 7 29 (bl 8 255) ?_
        refine done_ (done_of HT_.out (by kernel_rfl)) ?_
        have p120 : 0 ≤ (x5_1 : Int) := od
        have q120 : x5_1 < (l0.length : Int) := od
        obtain ⟨ad120, e120, hx120_0, hx120_1, hx120_2, hx120_3, hx120_4⟩ := at_T49 HR0.out x5_1 p120 q120
        obtain rfl : ad116 = ad120 := (by injection e120)
        replace hx120_0 := hc HB hx120_0
        replace hx120_1 := hc HB hx120_1
        replace hx120_2 := hc HB hx120_2
        replace hx120_3 := hc HB hx120_3
        replace hx120_4 := hc HB hx120_4
        replace p120 := eq_true p120
        replace q120 := eq_true q120
        try go_wp2
        go_ret
        exact ⟨re, bq⟩
      ·rw [if_neg c8] at H
       have c8b0 : (((rd_T49 l0 x5_1).f1).toList == t119.toList) = false := beq_eq_false_iff_ne.mpr c8
       have c8b1 : (((rd_T49 l0 x5_1).f1).toList != t119.toList) = true := bne_iff_ne.mpr c8
       obtain rfl := Option.some.inj H
       try go_wp2
       have _ := ra (below_drew1 HB.out)
       clear HB
       rename_i HB
       have p116 : 0 ≤ (x5_1 : Int) := od
       have q116 : x5_1 < (l0.length : Int) := od
       obtain ⟨ad116, e116, hx116_0, hx116_1, hx116_2, hx116_3, hx116_4⟩ := at_T49 HR0.out x5_1 p116 q116
       have hw116_4 := hx116_4
       have hw116_3 := hx116_3
       have hw116_2 := hx116_2
       have hw116_1 := hx116_1
       have hw116_0 := hx116_0
       cases e116
       replace hx116_0 := hc HB hx116_0
       replace hx116_1 := hc HB hx116_1
       replace hx116_2 := hc HB hx116_2
       replace hx116_3 := hc HB hx116_3
       replace hx116_4 := hc HB hx116_4
       replace p116 := eq_true p116
       replace q116 := eq_true q116
       refine start_ (n := 8) (S := fun w' => w'.cell? (ad116.add ((x5_1).toNat * 5)) = some (.string ((rd_T49 l0 x5_1).f0)) ∧ w'.cell? ⟨(ad116.add ((x5_1).toNat * 5)).block, (ad116.add ((x5_1).toNat * 5)).off + 1, none⟩ = some (.string ((rd_T49 l0 x5_1).f1)) ∧ w'.cell? ⟨(ad116.add ((x5_1).toNat * 5)).block, (ad116.add ((x5_1).toNat * 5)).off + 2, none⟩ = some (.int .i64 ((rd_T49 l0 x5_1).f2)) ∧ w'.cell? ⟨(ad116.add ((x5_1).toNat * 5)).block, (ad116.add ((x5_1).toNat * 5)).off + 3, none⟩ = some (.int .i64 ((rd_T49 l0 x5_1).f3)) ∧ w'.cell? ⟨(ad116.add ((x5_1).toNat * 5)).block, (ad116.add ((x5_1).toNat * 5)).off + 4, none⟩ = some (.int .i64 ((rd_T49 l0 x5_1).f4))) (ds := []) (bl 8 0) (by kernel_rfl) rfl rfl ⟨(hc HB hw116_0), (hc HB hw116_1), (hc HB hw116_2), (hc HB hw116_3), (hc HB hw116_4)⟩ (fun hHeld => ?_); refine with_tabW laws_heldProbeClashS.tab4 laws_heldProbeClashS.bits4 (fun HT_ HW_ => ?_)
       generalize wr.drew = w28 at HB hx116_0 hx116_1 hx116_2 hx116_3 hx116_4 hHeld ⊢
       refine pu 0 12 (bl 8 1) ?_
       refine pu 1 13 (bl 8 3) ?_
       refine pu 2 14 (bl 8 7) ?_
       refine pu 3 15 (bl 8 15) ?_
       refine pu 5 17 (bl 8 47) ?_
       refine tk 4 16 (bl 8 63) ?_ hHeld
       refine oe 6 18 (bl 8 127) (fun K hK => ?_)
       refine gs Try.func48 #[.int .i64 x1_1] ?_
       with_reducible refine (laws_markText.calls k1 x1_1 t117 _ A5.out).mono ?_
       rintro e w29 ⟨rfl, hb⟩
       refine ⟨_, rfl, ?_⟩
       have _ := bs hb
       clear HB
       rename_i HB
       (try clear hb)
       (try clear hb2)
       (try clear hk)
       (try clear hi)
       refine hK.out _ _ ⟨(hc HB hw116_0), (hc HB hw116_1), (hc HB hw116_2), (hc HB hw116_3), (hc HB hw116_4)⟩ (fun hHeld => ?_)
       clear hK K
       refine nm 18 ?_
       refine pu 7 19 (bl 8 255) ?_
       refine done_ (done_of HT_.out (by kernel_rfl)) ?_
       try go_wp2
       have _ := ra (below_drew1 HB.out)
       clear HB
       rename_i HB
       have p118 : 0 ≤ (x5_1 : Int) := od
       have q118 : x5_1 < (l0.length : Int) := od
       obtain ⟨ad118, e118, hx118_0, hx118_1, hx118_2, hx118_3, hx118_4⟩ := at_T49 HR0.out x5_1 p118 q118
       have hw118_4 := hx118_4
       have hw118_3 := hx118_3
       have hw118_2 := hx118_2
       have hw118_1 := hx118_1
       have hw118_0 := hx118_0
       obtain rfl : ad116 = ad118 := (by injection e118)
       replace hx118_0 := hc HB hx118_0
       replace hx118_1 := hc HB hx118_1
       replace hx118_2 := hc HB hx118_2
       replace hx118_3 := hc HB hx118_3
       replace hx118_4 := hc HB hx118_4
       replace p118 := eq_true p118
       replace q118 := eq_true q118
       refine start_ (n := 8) (S := fun w' => w'.cell? (ad116.add ((x5_1).toNat * 5)) = some (.string ((rd_T49 l0 x5_1).f0)) ∧ w'.cell? ⟨(ad116.add ((x5_1).toNat * 5)).block, (ad116.add ((x5_1).toNat * 5)).off + 1, none⟩ = some (.string ((rd_T49 l0 x5_1).f1)) ∧ w'.cell? ⟨(ad116.add ((x5_1).toNat * 5)).block, (ad116.add ((x5_1).toNat * 5)).off + 2, none⟩ = some (.int .i64 ((rd_T49 l0 x5_1).f2)) ∧ w'.cell? ⟨(ad116.add ((x5_1).toNat * 5)).block, (ad116.add ((x5_1).toNat * 5)).off + 3, none⟩ = some (.int .i64 ((rd_T49 l0 x5_1).f3)) ∧ w'.cell? ⟨(ad116.add ((x5_1).toNat * 5)).block, (ad116.add ((x5_1).toNat * 5)).off + 4, none⟩ = some (.int .i64 ((rd_T49 l0 x5_1).f4))) (ds := []) (bl 8 0) (by kernel_rfl) rfl rfl ⟨(hc HB hw118_0), (hc HB hw118_1), (hc HB hw118_2), (hc HB hw118_3), (hc HB hw118_4)⟩ (fun hHeld => ?_); refine with_tabW laws_heldProbeClashS.tab7 laws_heldProbeClashS.bits7 (fun HT_ HW_ => ?_)
       generalize w29.drew = w30 at HB hx118_0 hx118_1 hx118_2 hx118_3 hx118_4 hHeld ⊢
       refine pu 0 22 (bl 8 1) ?_
       refine pu 1 23 (bl 8 3) ?_
       refine pu 2 24 (bl 8 7) ?_
       refine pu 3 25 (bl 8 15) ?_
       refine pu 5 27 (bl 8 47) ?_
       refine tk 4 26 (bl 8 63) ?_ hHeld
       refine oe 6 28 (bl 8 127) (fun K hK => ?_)
       refine gs Try.func48 #[.int .i64 (wrap64 (x1_1 + 1))] ?_
       with_reducible refine (laws_markText.calls k1 (wrap64 (x1_1 + 1)) t119 _ A7.out).mono ?_
       rintro e w31 ⟨rfl, hb⟩
       refine ⟨_, rfl, ?_⟩
       have _ := bs hb
       clear HB
       rename_i HB
       (try clear hb)
       (try clear hb2)
       (try clear hk)
       (try clear hi)
       refine hK.out _ _ ⟨(hc HB hw118_0), (hc HB hw118_1), (hc HB hw118_2), (hc HB hw118_3), (hc HB hw118_4)⟩ (fun hHeld => ?_)
       clear hK K
       refine nm 28 ?_
       refine pu 7 29 (bl 8 255) ?_
       refine done_ (done_of HT_.out (by kernel_rfl)) ?_
       try go_wp2
       go_ret
       exact ⟨re, bq⟩
     ·rw [if_neg c6] at H
      have c6b0 : (((rd_T49 l0 x5_1).f0).toList == t117.toList) = false := beq_eq_false_iff_ne.mpr c6
      have c6b1 : (((rd_T49 l0 x5_1).f0).toList != t117.toList) = true := bne_iff_ne.mpr c6
      obtain rfl := Option.some.inj H
      try go_wp2
      have _ := ra (below_drew1 HB.out)
      clear HB
      rename_i HB
      have p116 : 0 ≤ (x5_1 : Int) := od
      have q116 : x5_1 < (l0.length : Int) := od
      obtain ⟨ad116, e116, hx116_0, hx116_1, hx116_2, hx116_3, hx116_4⟩ := at_T49 HR0.out x5_1 p116 q116
      have hw116_4 := hx116_4
      have hw116_3 := hx116_3
      have hw116_2 := hx116_2
      have hw116_1 := hx116_1
      have hw116_0 := hx116_0
      cases e116
      replace hx116_0 := hc HB hx116_0
      replace hx116_1 := hc HB hx116_1
      replace hx116_2 := hc HB hx116_2
      replace hx116_3 := hc HB hx116_3
      replace hx116_4 := hc HB hx116_4
      replace p116 := eq_true p116
      replace q116 := eq_true q116
      refine start_ (n := 8) (S := fun w' => w'.cell? (ad116.add ((x5_1).toNat * 5)) = some (.string ((rd_T49 l0 x5_1).f0)) ∧ w'.cell? ⟨(ad116.add ((x5_1).toNat * 5)).block, (ad116.add ((x5_1).toNat * 5)).off + 1, none⟩ = some (.string ((rd_T49 l0 x5_1).f1)) ∧ w'.cell? ⟨(ad116.add ((x5_1).toNat * 5)).block, (ad116.add ((x5_1).toNat * 5)).off + 2, none⟩ = some (.int .i64 ((rd_T49 l0 x5_1).f2)) ∧ w'.cell? ⟨(ad116.add ((x5_1).toNat * 5)).block, (ad116.add ((x5_1).toNat * 5)).off + 3, none⟩ = some (.int .i64 ((rd_T49 l0 x5_1).f3)) ∧ w'.cell? ⟨(ad116.add ((x5_1).toNat * 5)).block, (ad116.add ((x5_1).toNat * 5)).off + 4, none⟩ = some (.int .i64 ((rd_T49 l0 x5_1).f4))) (ds := []) (bl 8 0) (by kernel_rfl) rfl rfl ⟨(hc HB hw116_0), (hc HB hw116_1), (hc HB hw116_2), (hc HB hw116_3), (hc HB hw116_4)⟩ (fun hHeld => ?_); refine with_tabW laws_heldProbeClashS.tab4 laws_heldProbeClashS.bits4 (fun HT_ HW_ => ?_)
      generalize wr.drew = w32 at HB hx116_0 hx116_1 hx116_2 hx116_3 hx116_4 hHeld ⊢
      refine pu 0 12 (bl 8 1) ?_
      refine pu 1 13 (bl 8 3) ?_
      refine pu 2 14 (bl 8 7) ?_
      refine pu 3 15 (bl 8 15) ?_
      refine pu 5 17 (bl 8 47) ?_
      refine tk 4 16 (bl 8 63) ?_ hHeld
      refine oe 6 18 (bl 8 127) (fun K hK => ?_)
      refine gs Try.func48 #[.int .i64 x1_1] ?_
      with_reducible refine (laws_markText.calls k1 x1_1 t117 _ A5.out).mono ?_
      rintro e w33 ⟨rfl, hb⟩
      refine ⟨_, rfl, ?_⟩
      have _ := bs hb
      clear HB
      rename_i HB
      (try clear hb)
      (try clear hb2)
      (try clear hk)
      (try clear hi)
      refine hK.out _ _ ⟨(hc HB hw116_0), (hc HB hw116_1), (hc HB hw116_2), (hc HB hw116_3), (hc HB hw116_4)⟩ (fun hHeld => ?_)
      clear hK K
      refine nm 18 ?_
      refine pu 7 19 (bl 8 255) ?_
      refine done_ (done_of HT_.out (by kernel_rfl)) ?_
      try go_wp2
      go_ret
      exact ⟨re, bq⟩
    ·rw [if_neg c4] at H
     exact absurd H (by simp)
   ·rw [if_neg c3] at H
    have c3b0 : decide (x5_1 < (l0.length : Int)) = false := decide_eq_false c3
    clear c3
    obtain rfl := Option.some.inj H
    go_wp2
    go_ret
    exact ⟨re, bq⟩
end Go.Proofs.Ytdbomnhdpniigaa.PA
