/- Contracts of the functions spec_l2Cover, spec_ProbeSmaller, impl_within, impl_ProbeSmaller. (Began as a print of the kit's tool.) -/
import Derived.Test.YtfoapgcnjnogiaaPAd
import Derived.Test.YtfoapgcnjnogiaaCx
import Derived.Test.YtfoapgcnjnogiaaGBase
namespace Go.Proofs.Ytfoapgcnjnogiaa.PA
open Go.RowKit Go.Proofs.YtfoapgcnjnogiaaW.PrintWords Go.Proofs.YtfoapgcnjnogiaaW.PrintLast Go.Proofs.YtfoapgcnjnogiaaW.PrintMore Go.Proofs.Ytfoapgcnjnogiaa.Z
attribute [local go_sem] max2_int min2_int max_two min_two max_three min_three max_four min_four
set_option linter.unusedVariables false
set_option linter.unusedSimpArgs false
set_option maxHeartbeats 8000000 in
set_option maxRecDepth 100000 in
theorem spec_l2Cover.calls (a0_0 : Int) (a0_1 : Int) (a0_2 : Int) (a0_3 : Int) (a0_4 : Int) (a0_5 : Int) (a1_0 : Int) (a1_1 : Int) (a1_2 : Int) (a1_3 : Int) (a1_4 : Int) (a1_5 : Int) (r : Bool) (w : World) (h : spec_l2Cover.f a0_0 a0_1 a0_2 a0_3 a0_4 a0_5 a1_0 a1_1 a1_2 a1_3 a1_4 a1_5 = some r) :
  Calls Try.prog 56 #[.agg #[.int .i64 a0_0, .int .i64 a0_1, .int .i64 a0_2, .int .i64 a0_3, .int .i64 a0_4, .int .i64 a0_5], .agg #[.int .i64 a1_0, .int .i64 a1_1, .int .i64 a1_2, .int .i64 a1_3, .int .i64 a1_4, .int .i64 a1_5]] w fun e w' => e = .returned (.bool r) ∧ Below w.heap.size w w' := by
 have hu26 := Try.underlying26
 have HB := ra (Below.refl w.heap.size w)
 have H : (if a1_0 = a0_0 then (if a1_1 = a0_1 then (if a0_2 ≤ a1_2 then (if a1_3 ≤ a0_3 then (if a0_4 ≤ a1_4 then (some (decide (a1_5 ≤ a0_5))) else (some false)) else (some false)) else (some false)) else (some false)) else (some false)) = some r := h
 clear h
 by_cases c3 : a1_0 = a0_0
 ·rw [if_pos c3] at H
  have c3b0 : (a1_0 == a0_0) = true := beq_iff_eq.mpr c3
  have c3b1 : (a1_0 != a0_0) = false := bne_eq_false_iff_eq.mpr c3
  clear c3
  by_cases c4 : a1_1 = a0_1
  ·rw [if_pos c4] at H
   have c4b0 : (a1_1 == a0_1) = true := beq_iff_eq.mpr c4
   have c4b1 : (a1_1 != a0_1) = false := bne_eq_false_iff_eq.mpr c4
   clear c4
   by_cases c5 : a0_2 ≤ a1_2
   ·rw [if_pos c5] at H
    have c5b0 : decide (a0_2 ≤ a1_2) = true := decide_eq_true c5
    clear c5
    by_cases c6 : a1_3 ≤ a0_3
    ·rw [if_pos c6] at H
     have c6b0 : decide (a1_3 ≤ a0_3) = true := decide_eq_true c6
     clear c6
     by_cases c7 : a0_4 ≤ a1_4
     ·rw [if_pos c7] at H
      have c7b0 : decide (a0_4 ≤ a1_4) = true := decide_eq_true c7
      clear c7
      obtain rfl := Option.some.inj H
      go_enter Try.func56, Try.ntmps56
      go_wp2_with (first | ((with_reducible refine gate_dst (N := 2) rfl ?_); refine be 2 #[.int .i64 a0_0, .int .i64 a0_1, .int .i64 a0_2, .int .i64 a0_3, .int .i64 a0_4, .int .i64 a0_5] 26 ?_; intro gb228 hg w8 hbox hb; have _ := bs hb; have _ := ra (hbox); have _ := bz (w0 := w) hg; have _ := bz (w0 := w) hg; clear HB; rename_i HB BK228 GW228 GE228; clear hb hbox hg) | ((with_reducible refine gate_dst (N := 3) rfl ?_); refine be 3 #[.int .i64 a1_0, .int .i64 a1_1, .int .i64 a1_2, .int .i64 a1_3, .int .i64 a1_4, .int .i64 a1_5] 26 ?_; intro gb229 hg w9 hbox hb; have _ := bb (bk BK228) hb; have _ := bs hb; have _ := ra (hbox); have _ := bz (w0 := w) hg; have _ := bz (w0 := w) hg; have _ := bn hg (bk BK228); have _ := bm hg (bk BK228); clear BK228 HB; rename_i BK228 HB BK229 GW229 GE229 NB228_229 NB229_228; clear hb hbox hg; have hnb10 := NB229_228.out; have hnc10 := NB228_229.out; obtain ⟨hcz11_0, hcz11_1, hcz11_2, hcz11_3, hcz11_4, hcz11_5, hfz11_0, hfz11_1, hfz11_2, hfz11_3, hfz11_4, hfz11_5⟩ := zc6 BK229; obtain ⟨hcz12_0, hcz12_1, hcz12_2, hcz12_3, hcz12_4, hcz12_5, hfz12_0, hfz12_1, hfz12_2, hfz12_3, hfz12_4, hfz12_5⟩ := zc6 BK228))
      go_ret
      exact ⟨re, bq⟩
     ·rw [if_neg c7] at H
      have c7b0 : decide (a0_4 ≤ a1_4) = false := decide_eq_false c7
      clear c7
      obtain rfl := Option.some.inj H
      go_enter Try.func56, Try.ntmps56
      go_wp2_with (first | ((with_reducible refine gate_dst (N := 2) rfl ?_); refine be 2 #[.int .i64 a0_0, .int .i64 a0_1, .int .i64 a0_2, .int .i64 a0_3, .int .i64 a0_4, .int .i64 a0_5] 26 ?_; intro gb228 hg w13 hbox hb; have _ := bs hb; have _ := ra (hbox); have _ := bz (w0 := w) hg; have _ := bz (w0 := w) hg; clear HB; rename_i HB BK228 GW228 GE228; clear hb hbox hg) | ((with_reducible refine gate_dst (N := 3) rfl ?_); refine be 3 #[.int .i64 a1_0, .int .i64 a1_1, .int .i64 a1_2, .int .i64 a1_3, .int .i64 a1_4, .int .i64 a1_5] 26 ?_; intro gb229 hg w14 hbox hb; have _ := bb (bk BK228) hb; have _ := bs hb; have _ := ra (hbox); have _ := bz (w0 := w) hg; have _ := bz (w0 := w) hg; have _ := bn hg (bk BK228); have _ := bm hg (bk BK228); clear BK228 HB; rename_i BK228 HB BK229 GW229 GE229 NB228_229 NB229_228; clear hb hbox hg; have hnb15 := NB229_228.out; have hnc15 := NB228_229.out; obtain ⟨hcz16_0, hcz16_1, hcz16_2, hcz16_3, hcz16_4, hcz16_5, hfz16_0, hfz16_1, hfz16_2, hfz16_3, hfz16_4, hfz16_5⟩ := zc6 BK229; obtain ⟨hcz17_0, hcz17_1, hcz17_2, hcz17_3, hcz17_4, hcz17_5, hfz17_0, hfz17_1, hfz17_2, hfz17_3, hfz17_4, hfz17_5⟩ := zc6 BK228))
      go_ret
      exact ⟨re, bq⟩
    ·rw [if_neg c6] at H
     have c6b0 : decide (a1_3 ≤ a0_3) = false := decide_eq_false c6
     clear c6
     obtain rfl := Option.some.inj H
     go_enter Try.func56, Try.ntmps56
     go_wp2_with (first | ((with_reducible refine gate_dst (N := 2) rfl ?_); refine be 2 #[.int .i64 a0_0, .int .i64 a0_1, .int .i64 a0_2, .int .i64 a0_3, .int .i64 a0_4, .int .i64 a0_5] 26 ?_; intro gb228 hg w18 hbox hb; have _ := bs hb; have _ := ra (hbox); have _ := bz (w0 := w) hg; have _ := bz (w0 := w) hg; clear HB; rename_i HB BK228 GW228 GE228; clear hb hbox hg) | ((with_reducible refine gate_dst (N := 3) rfl ?_); refine be 3 #[.int .i64 a1_0, .int .i64 a1_1, .int .i64 a1_2, .int .i64 a1_3, .int .i64 a1_4, .int .i64 a1_5] 26 ?_; intro gb229 hg w19 hbox hb; have _ := bb (bk BK228) hb; have _ := bs hb; have _ := ra (hbox); have _ := bz (w0 := w) hg; have _ := bz (w0 := w) hg; have _ := bn hg (bk BK228); have _ := bm hg (bk BK228); clear BK228 HB; rename_i BK228 HB BK229 GW229 GE229 NB228_229 NB229_228; clear hb hbox hg; have hnb20 := NB229_228.out; have hnc20 := NB228_229.out; obtain ⟨hcz21_0, hcz21_1, hcz21_2, hcz21_3, hcz21_4, hcz21_5, hfz21_0, hfz21_1, hfz21_2, hfz21_3, hfz21_4, hfz21_5⟩ := zc6 BK229; obtain ⟨hcz22_0, hcz22_1, hcz22_2, hcz22_3, hcz22_4, hcz22_5, hfz22_0, hfz22_1, hfz22_2, hfz22_3, hfz22_4, hfz22_5⟩ := zc6 BK228))
     go_ret
     exact ⟨re, bq⟩
   ·rw [if_neg c5] at H
    have c5b0 : decide (a0_2 ≤ a1_2) = false := decide_eq_false c5
    clear c5
    obtain rfl := Option.some.inj H
    go_enter Try.func56, Try.ntmps56
    go_wp2_with (first | ((with_reducible refine gate_dst (N := 2) rfl ?_); refine be 2 #[.int .i64 a0_0, .int .i64 a0_1, .int .i64 a0_2, .int .i64 a0_3, .int .i64 a0_4, .int .i64 a0_5] 26 ?_; intro gb228 hg w23 hbox hb; have _ := bs hb; have _ := ra (hbox); have _ := bz (w0 := w) hg; have _ := bz (w0 := w) hg; clear HB; rename_i HB BK228 GW228 GE228; clear hb hbox hg) | ((with_reducible refine gate_dst (N := 3) rfl ?_); refine be 3 #[.int .i64 a1_0, .int .i64 a1_1, .int .i64 a1_2, .int .i64 a1_3, .int .i64 a1_4, .int .i64 a1_5] 26 ?_; intro gb229 hg w24 hbox hb; have _ := bb (bk BK228) hb; have _ := bs hb; have _ := ra (hbox); have _ := bz (w0 := w) hg; have _ := bz (w0 := w) hg; have _ := bn hg (bk BK228); have _ := bm hg (bk BK228); clear BK228 HB; rename_i BK228 HB BK229 GW229 GE229 NB228_229 NB229_228; clear hb hbox hg; have hnb25 := NB229_228.out; have hnc25 := NB228_229.out; obtain ⟨hcz26_0, hcz26_1, hcz26_2, hcz26_3, hcz26_4, hcz26_5, hfz26_0, hfz26_1, hfz26_2, hfz26_3, hfz26_4, hfz26_5⟩ := zc6 BK229; obtain ⟨hcz27_0, hcz27_1, hcz27_2, hcz27_3, hcz27_4, hcz27_5, hfz27_0, hfz27_1, hfz27_2, hfz27_3, hfz27_4, hfz27_5⟩ := zc6 BK228))
    go_ret
    exact ⟨re, bq⟩
  ·rw [if_neg c4] at H
   have c4b0 : (a1_1 == a0_1) = false := beq_eq_false_iff_ne.mpr c4
   have c4b1 : (a1_1 != a0_1) = true := bne_iff_ne.mpr c4
   obtain rfl := Option.some.inj H
   go_enter Try.func56, Try.ntmps56
   go_wp2_with (first | ((with_reducible refine gate_dst (N := 2) rfl ?_); refine be 2 #[.int .i64 a0_0, .int .i64 a0_1, .int .i64 a0_2, .int .i64 a0_3, .int .i64 a0_4, .int .i64 a0_5] 26 ?_; intro gb228 hg w28 hbox hb; have _ := bs hb; have _ := ra (hbox); have _ := bz (w0 := w) hg; have _ := bz (w0 := w) hg; clear HB; rename_i HB BK228 GW228 GE228; clear hb hbox hg) | ((with_reducible refine gate_dst (N := 3) rfl ?_); refine be 3 #[.int .i64 a1_0, .int .i64 a1_1, .int .i64 a1_2, .int .i64 a1_3, .int .i64 a1_4, .int .i64 a1_5] 26 ?_; intro gb229 hg w29 hbox hb; have _ := bb (bk BK228) hb; have _ := bs hb; have _ := ra (hbox); have _ := bz (w0 := w) hg; have _ := bz (w0 := w) hg; have _ := bn hg (bk BK228); have _ := bm hg (bk BK228); clear BK228 HB; rename_i BK228 HB BK229 GW229 GE229 NB228_229 NB229_228; clear hb hbox hg; have hnb30 := NB229_228.out; have hnc30 := NB228_229.out; obtain ⟨hcz31_0, hcz31_1, hcz31_2, hcz31_3, hcz31_4, hcz31_5, hfz31_0, hfz31_1, hfz31_2, hfz31_3, hfz31_4, hfz31_5⟩ := zc6 BK229; obtain ⟨hcz32_0, hcz32_1, hcz32_2, hcz32_3, hcz32_4, hcz32_5, hfz32_0, hfz32_1, hfz32_2, hfz32_3, hfz32_4, hfz32_5⟩ := zc6 BK228))
   go_ret
   exact ⟨re, bq⟩
 ·rw [if_neg c3] at H
  have c3b0 : (a1_0 == a0_0) = false := beq_eq_false_iff_ne.mpr c3
  have c3b1 : (a1_0 != a0_0) = true := bne_iff_ne.mpr c3
  obtain rfl := Option.some.inj H
  go_enter Try.func56, Try.ntmps56
  go_wp2_with (first | ((with_reducible refine gate_dst (N := 2) rfl ?_); refine be 2 #[.int .i64 a0_0, .int .i64 a0_1, .int .i64 a0_2, .int .i64 a0_3, .int .i64 a0_4, .int .i64 a0_5] 26 ?_; intro gb228 hg w33 hbox hb; have _ := bs hb; have _ := ra (hbox); have _ := bz (w0 := w) hg; have _ := bz (w0 := w) hg; clear HB; rename_i HB BK228 GW228 GE228; clear hb hbox hg) | ((with_reducible refine gate_dst (N := 3) rfl ?_); refine be 3 #[.int .i64 a1_0, .int .i64 a1_1, .int .i64 a1_2, .int .i64 a1_3, .int .i64 a1_4, .int .i64 a1_5] 26 ?_; intro gb229 hg w34 hbox hb; have _ := bb (bk BK228) hb; have _ := bs hb; have _ := ra (hbox); have _ := bz (w0 := w) hg; have _ := bz (w0 := w) hg; have _ := bn hg (bk BK228); have _ := bm hg (bk BK228); clear BK228 HB; rename_i BK228 HB BK229 GW229 GE229 NB228_229 NB229_228; clear hb hbox hg; have hnb35 := NB229_228.out; have hnc35 := NB228_229.out; obtain ⟨hcz36_0, hcz36_1, hcz36_2, hcz36_3, hcz36_4, hcz36_5, hfz36_0, hfz36_1, hfz36_2, hfz36_3, hfz36_4, hfz36_5⟩ := zc6 BK229; obtain ⟨hcz37_0, hcz37_1, hcz37_2, hcz37_3, hcz37_4, hcz37_5, hfz37_0, hfz37_1, hfz37_2, hfz37_3, hfz37_4, hfz37_5⟩ := zc6 BK228))
  go_ret
  exact ⟨re, bq⟩
def spec_ProbeSmaller.T10 : Bool × List (List Nat × List Nat) := (true, [([], []), ([0], [0]), ([1], [1]), ([2, 1], [1, 2]), ([1], [1]), ([3, 4, 1], [1, 3, 4]), ([5, 1], [1, 5]), ([1], [1]), ([7, 1], [1, 7]), ([1], [1]), ([8, 9, 1], [1, 8, 9]), ([10, 1], [1, 10]), ([6, 11, 1, 1], [1, 6, 11]), ([1, 12], [1, 12]), ([13, 12, 0, 1, 2, 3, 4, 5, 6, 7, 8, 9, 10, 11, 12, 13], [0, 13])])
def spec_ProbeSmaller.B10 : List Nat := [0, 1, 3, 7, 3, 31, 63, 3, 131, 3, 899, 1923, 4095, 8191, 16383]
theorem spec_ProbeSmaller.tab10 : rtab .any (opsOf Try.f25 10) = spec_ProbeSmaller.T10 := by kernel_rfl
theorem spec_ProbeSmaller.bits10 : waitsOk spec_ProbeSmaller.T10.2 spec_ProbeSmaller.B10 = true := by kernel_rfl
set_option maxHeartbeats 8000000 in
set_option maxRecDepth 100000 in
theorem spec_ProbeSmaller.calls (k : Nat) (a0_0 : ByteArray) (A0_1 : Option Addr) (c0_1 : Nat) (l0_1 : List (S26)) (a1_0 : ByteArray) (A1_1 : Option Addr) (c1_1 : Nat) (l1_1 : List (S26)) (r : Bool) (w : World) (hr0_1 : Kd.C k26 w A0_1 l0_1.length l0_1) (hc0_1 : l0_1.length ≤ c0_1) (hr1_1 : Kd.C k26 w A1_1 l1_1.length l1_1) (hc1_1 : l1_1.length ≤ c1_1) (h : spec_ProbeSmaller.f k a0_0 l0_1 a1_0 l1_1 = some r) :
  Calls Try.prog 25 #[.agg #[.string a0_0, .slice A0_1 l0_1.length c0_1], .agg #[.string a1_0, .slice A1_1 l1_1.length c1_1]] w fun e w' => e = .returned (.bool r) ∧ Below w.heap.size w w' := by
 have hu39 := Try.underlying39
 have hu26 := Try.underlying26
 have HR0_1 := Aside0.mk hr0_1
 have HC0_1 := Aside0.mk hc0_1
 clear hr0_1 hc0_1
 have HR1_1 := Aside0.mk hr1_1
 have HC1_1 := Aside0.mk hc1_1
 clear hr1_1 hc1_1
 have HB := ra (Below.refl w.heap.size w)
 have H : ((spec_ProbeTubeOk.f k a0_0 l0_1).bind fun t232 => (if t232 = true then ((spec_ProbeTubeOk.f k a1_0 l1_1).bind fun t233 => (spec_ProbeSmaller.j0 k (!t233) a0_0 l0_1 a1_0 l1_1)) else (spec_ProbeSmaller.j0 k true a0_0 l0_1 a1_0 l1_1))) = some r := h
 clear h
 have HC3 := Aside0.mk H
 clear H
 go_enter Try.func25, Try.ntmps25
 go_upto_region 1 with (first | ((with_reducible refine gate_dst (N := 2) rfl ?_); refine be 2 #[.string a0_0, .slice A0_1 l0_1.length c0_1] 39 ?_; intro gb230 hg w4 hbox hb; have _ := bs hb; have _ := ra (hbox); have _ := bz (w0 := w) hg; have _ := bz (w0 := w) hg; clear HB; rename_i HB BK230 GW230 GE230; clear hb hbox hg) | ((with_reducible refine gate_dst (N := 3) rfl ?_); refine be 3 #[.string a1_0, .slice A1_1 l1_1.length c1_1] 39 ?_; intro gb231 hg w5 hbox hb; have _ := bb (bk BK230) hb; have _ := bs hb; have _ := ra (hbox); have _ := bz (w0 := w) hg; have _ := bz (w0 := w) hg; have _ := bn hg (bk BK230); have _ := bm hg (bk BK230); clear BK230 HB; rename_i BK230 HB BK231 GW231 GE231 NB230_231 NB231_230; clear hb hbox hg))
 (try simp only [Act.put, List.setIfInBounds_toArray, List.set_cons_zero, List.set_cons_succ])
 go_cut [15] (fun v15 wc => ∃ (kq : Nat) (x15_2 : Bool), v15 = .bool x15_2 ∧ Aside0 (spec_ProbeSmaller.j0 kq x15_2 a0_0 l0_1 a1_0 l1_1 = some r) ∧ Aside0 (kq ≤ k) ∧ Aside0 (wc.heap[gb230]? = some (.cells #[.string a0_0, (.slice A0_1 l0_1.length c0_1)] 39 (0, 0))) ∧ Aside0 (wc.heap[gb231]? = some (.cells #[.string a1_0, (.slice A1_1 l1_1.length c1_1)] 39 (0, 0))) ∧ Aside0 (Below w.heap.size w wc))
 case first =>
  have H := HC3.out
  clear HC3
  obtain ⟨t232, A6, H⟩ := bo H
  by_cases c7 : t232 = true
  ·subst c7
   replace H := it H rfl
   obtain ⟨t233, A8, H⟩ := bo H
   have H' := Aside0.mk H
   clear H
   have hnb9 := NB230_231.out
   have hnc9 := NB231_230.out
   obtain ⟨hcz10_0, hcz10_1, hfz10_0, hfz10_1⟩ := zc2 BK230
   go_wp2_with (first | ((with_reducible refine gate_callee (f := 21) rfl ?_); refine gl (some 9) Try.func21 #[.agg #[.string a0_0, .slice A0_1 l0_1.length c0_1]] ?_; (with_reducible refine (spec_ProbeTubeOk.calls k a0_0 _ _ l0_1 true _ ?side1 ?side2 A6.out).mono ?_); (case side1 => exact sc HR0_1); (case side2 => exact HC0_1.out); rintro e w11 ⟨rfl, hb⟩; refine ⟨_, rfl, ?_⟩; have _ := bb (bk BK230) hb; have _ := bb (bk BK231) hb; have _ := bs hb; clear BK230 BK231 HB; rename_i BK230 BK231 HB; (try clear hb); (try clear hb2); (try clear hk); (try clear hi); obtain ⟨hcz12_0, hcz12_1, hfz12_0, hfz12_1⟩ := zc2 BK231) | (go_at_call 21; (with_reducible refine (spec_ProbeTubeOk.calls k a1_0 _ _ l1_1 t233 _ ?side1 ?side2 A8.out).mono ?_); (case side1 => exact sc HR1_1); (case side2 => exact HC1_1.out); rintro e w13 ⟨rfl, hb⟩; have _ := bb (bk BK230) hb; have _ := bb (bk BK231) hb; have _ := bs hb; clear BK230 BK231 HB; rename_i BK230 BK231 HB; (try clear hb); (try clear hb2); (try clear hk); (try clear hi)))
   go_meet
   case rel => exact ⟨_, (!t233), rs, H', ⟨by first | omega | exact Nat.le_refl _⟩, ⟨bk BK230⟩, ⟨bk BK231⟩, ⟨bq⟩⟩
  ·replace c7 := Bool.eq_false_iff.mpr c7
   subst c7
   have H1 : (spec_ProbeSmaller.j0 k true a0_0 l0_1 a1_0 l1_1) = some r := by rw [if_neg (show ¬ (false = true) by decide)] at H; exact H
   clear H
   have H := H1
   clear H1
   have H' := Aside0.mk H
   clear H
   have hnb14 := NB230_231.out
   have hnc14 := NB231_230.out
   obtain ⟨hcz15_0, hcz15_1, hfz15_0, hfz15_1⟩ := zc2 BK230
   go_wp2_with (first | ((with_reducible refine gate_callee (f := 21) rfl ?_); refine gl (some 9) Try.func21 #[.agg #[.string a0_0, .slice A0_1 l0_1.length c0_1]] ?_; (with_reducible refine (spec_ProbeTubeOk.calls k a0_0 _ _ l0_1 false _ ?side1 ?side2 A6.out).mono ?_); (case side1 => exact sc HR0_1); (case side2 => exact HC0_1.out); rintro e w16 ⟨rfl, hb⟩; refine ⟨_, rfl, ?_⟩; have _ := bb (bk BK230) hb; have _ := bb (bk BK231) hb; have _ := bs hb; clear BK230 BK231 HB; rename_i BK230 BK231 HB; (try clear hb); (try clear hb2); (try clear hk); (try clear hi)))
   go_meet
   case rel => exact ⟨_, (true), rs, H', ⟨by first | omega | exact Nat.le_refl _⟩, ⟨bk BK230⟩, ⟨bk BK231⟩, ⟨bq⟩⟩
 case rest =>
  clear HC3
  try clear c7
  try clear hcz10_0
  try clear hcz10_1
  try clear hcz12_0
  try clear hcz12_1
  try clear hcz15_0
  try clear hcz15_1
  try clear hfz10_0
  try clear hfz10_1
  try clear hfz12_0
  try clear hfz12_1
  try clear hfz15_0
  try clear hfz15_1
  obtain ⟨kq, x15_2, rfl, HA, HJ2, BK230, BK231, HB⟩ := hcut
  cases kq with
  | zero => exact absurd HA.out (by simp [spec_ProbeSmaller.j0])
  | succ kj2 =>
   have H := HA.out
   clear HA
   simp only [spec_ProbeSmaller.j0] at H
   by_cases c17 : x15_2 = true
   ·subst c17
    replace H := it H rfl
    obtain rfl := Option.some.inj H
    go_wp2
    go_ret
    exact ⟨re, bq⟩
   ·replace c17 := Bool.eq_false_iff.mpr c17
    subst c17
    have H1 : (spec_ProbeSmaller.l0 kj2 0 a0_0 l0_1 a1_0 l1_1) = some r := by rw [if_neg (show ¬ (false = true) by decide)] at H; exact H
    clear H
    have H := H1
    clear H1
    have H' := Aside0.mk H
    clear H
    go_wp2
    go_loopg [5] kj2 (fun kq v5 w' => ∃ (x5_2 : Int), v5 = .int .i64 x5_2 ∧ Aside0 (spec_ProbeSmaller.l0 kq x5_2 a0_0 l0_1 a1_0 l1_1 = some r) ∧ Aside0 (kq ≤ kj2) ∧ Aside0 (w'.heap[gb230]? = some (.cells #[.string a0_0, (.slice A0_1 l0_1.length c0_1)] 39 (0, 0))) ∧ Aside0 (w'.heap[gb231]? = some (.cells #[.string a1_0, (.slice A1_1 l1_1.length c1_1)] 39 (0, 0))) ∧ Aside0 (Below w.heap.size w w'))
    case atStart => exact ⟨(0), rs, H', ⟨Nat.le_refl _⟩, ⟨bk BK230⟩, ⟨bk BK231⟩, ⟨bq⟩⟩
    case round =>
     clear H'
     try clear c7
     try clear c17
     try clear hcz10_0
     try clear hcz10_1
     try clear hcz12_0
     try clear hcz12_1
     try clear hcz15_0
     try clear hcz15_1
     try clear hfz10_0
     try clear hfz10_1
     try clear hfz12_0
     try clear hfz12_1
     try clear hfz15_0
     try clear hfz15_1
     obtain ⟨x5_2, rfl, HA, HK2, BK230, BK231, HB⟩ := hrel
     cases gk with
     | zero => exact absurd HA.out (by simp [spec_ProbeSmaller.l0])
     | succ k2 =>
      have H := HA.out
      clear HA
      simp only [spec_ProbeSmaller.l0] at H
      by_cases c18 : x5_2 < (l0_1.length : Int)
      ·rw [if_pos c18] at H
       have c18b0 : decide (x5_2 < (l0_1.length : Int)) = true := decide_eq_true c18
       clear c18
       have H' := Aside0.mk H
       clear H
       have hnb19 := NB230_231.out
       have hnc19 := NB231_230.out
       obtain ⟨hcz20_0, hcz20_1, hfz20_0, hfz20_1⟩ := zc2 BK230
       go_wp2
       go_loopg [6, 7] k2 (fun kq v6 v7 w' => ∃ (x6_3 : Bool) (x7_3 : Int), v6 = .bool x6_3 ∧ v7 = .int .i64 x7_3 ∧ Aside0 (spec_ProbeSmaller.l1 kq x5_2 x6_3 x7_3 a0_0 l0_1 a1_0 l1_1 = some r) ∧ Aside0 (kq ≤ k2) ∧ Aside0 (w'.heap[gb230]? = some (.cells #[.string a0_0, (.slice A0_1 l0_1.length c0_1)] 39 (0, 0))) ∧ Aside0 (w'.heap[gb231]? = some (.cells #[.string a1_0, (.slice A1_1 l1_1.length c1_1)] 39 (0, 0))) ∧ Aside0 (Below w.heap.size w w'))
       case atStart => exact ⟨(false), (0), rs, rs, H', ⟨Nat.le_refl _⟩, ⟨bk BK230⟩, ⟨bk BK231⟩, ⟨bq⟩⟩
       case round =>
        clear H'
        try clear c7
        try clear c17
        try clear c18
        try clear c18b0
        try clear hcz10_0
        try clear hcz10_1
        try clear hcz12_0
        try clear hcz12_1
        try clear hcz15_0
        try clear hcz15_1
        try clear hcz20_0
        try clear hcz20_1
        try clear hfz10_0
        try clear hfz10_1
        try clear hfz12_0
        try clear hfz12_1
        try clear hfz15_0
        try clear hfz15_1
        try clear hfz20_0
        try clear hfz20_1
        obtain ⟨x6_3, x7_3, rfl, rfl, HA, HK3, BK230, BK231, HB⟩ := hrel
        cases gk with
        | zero => exact absurd HA.out (by simp [spec_ProbeSmaller.l1])
        | succ k3 =>
         have H := HA.out
         clear HA
         simp only [spec_ProbeSmaller.l1] at H
         by_cases c21 : x7_3 < (l1_1.length : Int)
         ·rw [if_pos c21] at H
          have c21b0 : decide (x7_3 < (l1_1.length : Int)) = true := decide_eq_true c21
          clear c21
          by_cases c22 : x6_3 = true
          ·subst c22
           replace H := it H rfl
           have H' := Aside0.mk H
           clear H
           have hnb23 := NB231_230.out
           have hnc23 := NB230_231.out
           obtain ⟨hcz24_0, hcz24_1, hfz24_0, hfz24_1⟩ := zc2 BK231
           try go_wp2
           have _ := ra (blk_drew BK230.out)
           have _ := ra (blk_drew BK231.out)
           have _ := ra (below_drew1 HB.out)
           clear BK230 BK231 HB
           rename_i BK230 BK231 HB
           refine start_ (n := 15) (S := fun w' => True) (ds := []) (bl 15 0) (by kernel_rfl) rfl rfl trivial (fun hHeld => ?_); refine with_tabW spec_ProbeSmaller.tab10 spec_ProbeSmaller.bits10 (fun HT_ HW_ => ?_)
           generalize wr.drew = w25 at BK230 BK231 HB hHeld ⊢
           refine pu 0 30 (bl 15 1) ?_
           refine pu 1 31 (bl 15 3) ?_
           refine pv 2 32 (bl 15 7) ?_
           refine pv 3 33 (bl 15 15) ?_
           refine pv 4 34 (bl 15 31) ?_
           refine pv 5 35 (bl 15 63) ?_
           refine pv 6 36 (bl 15 127) ?_
           refine pv 7 37 (bl 15 255) ?_
           refine pv 8 38 (bl 15 511) ?_
           refine pv 9 39 (bl 15 1023) ?_
           refine pv 10 40 (bl 15 2047) ?_
           refine pv 11 41 (bl 15 4095) ?_
           refine pv 12 42 (bl 15 8191) ?_
           refine pu 13 43 (bl 15 16383) ?_
           refine pu 14 6 (bl 15 32767) ?_
           refine done_ (done_of HT_.out (by kernel_rfl)) ?_
           try go_wp2
           go_roundg k3
           case measure => have := HJ2.out; have := HK2.out; have := HK3.out; omega
           case rel => exact ⟨(true), (wrap64 (x7_3 + 1)), rs, rs, H', ⟨by have := HJ2.out; have := HK2.out; have := HK3.out; omega⟩, ⟨bk BK230⟩, ⟨bk BK231⟩, ⟨bq⟩⟩
          ·replace c22 := Bool.eq_false_iff.mpr c22
           subst c22
           have H1 : (if 0 ≤ x7_3 then (if 0 ≤ x5_2 then (if x5_2 < (l0_1.length : Int) then ((spec_l2Cover.f ((rd_T26 l1_1 x7_3).f0) ((rd_T26 l1_1 x7_3).f1) ((rd_T26 l1_1 x7_3).f2) ((rd_T26 l1_1 x7_3).f3) ((rd_T26 l1_1 x7_3).f4) ((rd_T26 l1_1 x7_3).f5) ((rd_T26 l0_1 x5_2).f0) ((rd_T26 l0_1 x5_2).f1) ((rd_T26 l0_1 x5_2).f2) ((rd_T26 l0_1 x5_2).f3) ((rd_T26 l0_1 x5_2).f4) ((rd_T26 l0_1 x5_2).f5)).bind fun t236 => (spec_ProbeSmaller.l1 k3 x5_2 t236 (wrap64 (x7_3 + 1)) a0_0 l0_1 a1_0 l1_1)) else (none)) else (none)) else (none)) = some r := by rw [if_neg (show ¬ (false = true) by decide)] at H; exact H
           clear H
           have H := H1
           clear H1
           by_cases c26 : 0 ≤ x7_3
           ·rw [if_pos c26] at H
            have c26b0 : decide (0 ≤ x7_3) = true := decide_eq_true c26
            clear c26
            by_cases c27 : 0 ≤ x5_2
            ·rw [if_pos c27] at H
             have c27b0 : decide (0 ≤ x5_2) = true := decide_eq_true c27
             clear c27
             by_cases c28 : x5_2 < (l0_1.length : Int)
             ·rw [if_pos c28] at H
              have c28b0 : decide (x5_2 < (l0_1.length : Int)) = true := decide_eq_true c28
              clear c28
              obtain ⟨t236, A29, H⟩ := bo H
              have H' := Aside0.mk H
              clear H
              have hnb30 := NB231_230.out
              have hnc30 := NB230_231.out
              obtain ⟨hcz31_0, hcz31_1, hfz31_0, hfz31_1⟩ := zc2 BK231
              try go_wp2
              have _ := ra (blk_drew BK230.out)
              have _ := ra (blk_drew BK231.out)
              have _ := ra (below_drew1 HB.out)
              clear BK230 BK231 HB
              rename_i BK230 BK231 HB
              have p234 : 0 ≤ (x7_3 : Int) := od
              have q234 : x7_3 < (l1_1.length : Int) := od
              obtain ⟨ad234, e234, hx234_0, hx234_1, hx234_2, hx234_3, hx234_4, hx234_5⟩ := at_T26 HR1_1.out x7_3 p234 q234
              have hw234_5 := hx234_5
              have hw234_4 := hx234_4
              have hw234_3 := hx234_3
              have hw234_2 := hx234_2
              have hw234_1 := hx234_1
              have hw234_0 := hx234_0
              cases e234
              replace hx234_0 := hc HB hx234_0
              replace hx234_1 := hc HB hx234_1
              replace hx234_2 := hc HB hx234_2
              replace hx234_3 := hc HB hx234_3
              replace hx234_4 := hc HB hx234_4
              replace hx234_5 := hc HB hx234_5
              replace p234 := eq_true p234
              replace q234 := eq_true q234
              have p235 : 0 ≤ (x5_2 : Int) := od
              have q235 : x5_2 < (l0_1.length : Int) := od
              obtain ⟨ad235, e235, hx235_0, hx235_1, hx235_2, hx235_3, hx235_4, hx235_5⟩ := at_T26 HR0_1.out x5_2 p235 q235
              have hw235_5 := hx235_5
              have hw235_4 := hx235_4
              have hw235_3 := hx235_3
              have hw235_2 := hx235_2
              have hw235_1 := hx235_1
              have hw235_0 := hx235_0
              cases e235
              replace hx235_0 := hc HB hx235_0
              replace hx235_1 := hc HB hx235_1
              replace hx235_2 := hc HB hx235_2
              replace hx235_3 := hc HB hx235_3
              replace hx235_4 := hc HB hx235_4
              replace hx235_5 := hc HB hx235_5
              replace p235 := eq_true p235
              replace q235 := eq_true q235
              refine start_ (n := 15) (S := fun w' => w'.cell? ⟨gb231, 0, none⟩ = some (.string a1_0) ∧ w'.cell? ⟨gb231, 1, none⟩ = some (.slice (some ad234) l1_1.length c1_1) ∧ w'.cell? ⟨gb230, 0, none⟩ = some (.string a0_0) ∧ w'.cell? ⟨gb230, 1, none⟩ = some (.slice (some ad235) l0_1.length c0_1) ∧ w'.cell? (ad234.add ((x7_3).toNat * 6)) = some (.int .i64 ((rd_T26 l1_1 x7_3).f0)) ∧ w'.cell? ⟨(ad234.add ((x7_3).toNat * 6)).block, (ad234.add ((x7_3).toNat * 6)).off + 1, none⟩ = some (.int .i64 ((rd_T26 l1_1 x7_3).f1)) ∧ w'.cell? ⟨(ad234.add ((x7_3).toNat * 6)).block, (ad234.add ((x7_3).toNat * 6)).off + 2, none⟩ = some (.int .i64 ((rd_T26 l1_1 x7_3).f2)) ∧ w'.cell? ⟨(ad234.add ((x7_3).toNat * 6)).block, (ad234.add ((x7_3).toNat * 6)).off + 3, none⟩ = some (.int .i64 ((rd_T26 l1_1 x7_3).f3)) ∧ w'.cell? ⟨(ad234.add ((x7_3).toNat * 6)).block, (ad234.add ((x7_3).toNat * 6)).off + 4, none⟩ = some (.int .i64 ((rd_T26 l1_1 x7_3).f4)) ∧ w'.cell? ⟨(ad234.add ((x7_3).toNat * 6)).block, (ad234.add ((x7_3).toNat * 6)).off + 5, none⟩ = some (.int .i64 ((rd_T26 l1_1 x7_3).f5)) ∧ w'.cell? (ad235.add ((x5_2).toNat * 6)) = some (.int .i64 ((rd_T26 l0_1 x5_2).f0)) ∧ w'.cell? ⟨(ad235.add ((x5_2).toNat * 6)).block, (ad235.add ((x5_2).toNat * 6)).off + 1, none⟩ = some (.int .i64 ((rd_T26 l0_1 x5_2).f1)) ∧ w'.cell? ⟨(ad235.add ((x5_2).toNat * 6)).block, (ad235.add ((x5_2).toNat * 6)).off + 2, none⟩ = some (.int .i64 ((rd_T26 l0_1 x5_2).f2)) ∧ w'.cell? ⟨(ad235.add ((x5_2).toNat * 6)).block, (ad235.add ((x5_2).toNat * 6)).off + 3, none⟩ = some (.int .i64 ((rd_T26 l0_1 x5_2).f3)) ∧ w'.cell? ⟨(ad235.add ((x5_2).toNat * 6)).block, (ad235.add ((x5_2).toNat * 6)).off + 4, none⟩ = some (.int .i64 ((rd_T26 l0_1 x5_2).f4)) ∧ w'.cell? ⟨(ad235.add ((x5_2).toNat * 6)).block, (ad235.add ((x5_2).toNat * 6)).off + 5, none⟩ = some (.int .i64 ((rd_T26 l0_1 x5_2).f5))) (ds := []) (bl 15 0) (by kernel_rfl) rfl rfl ⟨(blk_cell BK231.out 0).trans rfl, (blk_cell BK231.out 1).trans rfl, (blk_cell BK230.out 0).trans rfl, (blk_cell BK230.out 1).trans rfl, (hc HB hw234_0), (hc HB hw234_1), (hc HB hw234_2), (hc HB hw234_3), (hc HB hw234_4), (hc HB hw234_5), (hc HB hw235_0), (hc HB hw235_1), (hc HB hw235_2), (hc HB hw235_3), (hc HB hw235_4), (hc HB hw235_5)⟩ (fun hHeld => ?_); refine with_tabW spec_ProbeSmaller.tab10 spec_ProbeSmaller.bits10 (fun HT_ HW_ => ?_)
              generalize wr.drew = w32 at BK230 BK231 HB hx234_0 hx234_1 hx234_2 hx234_3 hx234_4 hx234_5 hx235_0 hx235_1 hx235_2 hx235_3 hx235_4 hx235_5 hHeld ⊢
              refine pu 0 30 (bl 15 1) ?_
              refine pu 1 31 (bl 15 3) ?_
              refine pu 2 32 (bl 15 7) ?_
              refine pu 4 34 (bl 15 23) ?_
              refine pu 7 37 (bl 15 151) ?_
              refine pu 9 39 (bl 15 663) ?_
              refine tk 3 33 (bl 15 671) ?_ hHeld
              refine pu 5 35 (bl 15 703) ?_
              refine tk 6 36 (bl 15 767) ?_ hHeld
              refine tk 8 38 (bl 15 1023) ?_ hHeld
              refine pu 10 40 (bl 15 2047) ?_
              refine tk 11 41 (bl 15 4095) ?_ hHeld
              refine oe 12 42 (bl 15 8191) (fun K hK => ?_)
              refine gs Try.func56 #[.agg #[.int .i64 ((rd_T26 l1_1 x7_3).f0), .int .i64 ((rd_T26 l1_1 x7_3).f1), .int .i64 ((rd_T26 l1_1 x7_3).f2), .int .i64 ((rd_T26 l1_1 x7_3).f3), .int .i64 ((rd_T26 l1_1 x7_3).f4), .int .i64 ((rd_T26 l1_1 x7_3).f5)], .agg #[.int .i64 ((rd_T26 l0_1 x5_2).f0), .int .i64 ((rd_T26 l0_1 x5_2).f1), .int .i64 ((rd_T26 l0_1 x5_2).f2), .int .i64 ((rd_T26 l0_1 x5_2).f3), .int .i64 ((rd_T26 l0_1 x5_2).f4), .int .i64 ((rd_T26 l0_1 x5_2).f5)]] ?_
              with_reducible refine (spec_l2Cover.calls ((rd_T26 l1_1 x7_3).f0) ((rd_T26 l1_1 x7_3).f1) ((rd_T26 l1_1 x7_3).f2) ((rd_T26 l1_1 x7_3).f3) ((rd_T26 l1_1 x7_3).f4) ((rd_T26 l1_1 x7_3).f5) ((rd_T26 l0_1 x5_2).f0) ((rd_T26 l0_1 x5_2).f1) ((rd_T26 l0_1 x5_2).f2) ((rd_T26 l0_1 x5_2).f3) ((rd_T26 l0_1 x5_2).f4) ((rd_T26 l0_1 x5_2).f5) t236 _ A29.out).mono ?_
              rintro e w33 ⟨rfl, hb⟩
              refine ⟨_, rfl, ?_⟩
              have _ := bb (bk BK230) hb
              have _ := bb (bk BK231) hb
              have _ := bs hb
              clear BK230 BK231 HB
              rename_i BK230 BK231 HB
              (try clear hb)
              (try clear hb2)
              (try clear hk)
              (try clear hi)
              refine hK.out _ _ ⟨(blk_cell BK231.out 0).trans rfl, (blk_cell BK231.out 1).trans rfl, (blk_cell BK230.out 0).trans rfl, (blk_cell BK230.out 1).trans rfl, (hc HB hw234_0), (hc HB hw234_1), (hc HB hw234_2), (hc HB hw234_3), (hc HB hw234_4), (hc HB hw234_5), (hc HB hw235_0), (hc HB hw235_1), (hc HB hw235_2), (hc HB hw235_3), (hc HB hw235_4), (hc HB hw235_5)⟩ (fun hHeld => ?_)
              clear hK K
              refine nm 42 ?_
              refine pu 13 43 (bl 15 16383) ?_
              refine pu 14 6 (bl 15 32767) ?_
              refine done_ (done_of HT_.out (by kernel_rfl)) ?_
              try go_wp2
              go_roundg k3
              case measure => have := HJ2.out; have := HK2.out; have := HK3.out; omega
              case rel => exact ⟨(t236), (wrap64 (x7_3 + 1)), rs, rs, H', ⟨by have := HJ2.out; have := HK2.out; have := HK3.out; omega⟩, ⟨bk BK230⟩, ⟨bk BK231⟩, ⟨bq⟩⟩
             ·rw [if_neg c28] at H
              exact absurd H (by simp)
            ·rw [if_neg c27] at H
             exact absurd H (by simp)
           ·rw [if_neg c26] at H
            exact absurd H (by simp)
         ·rw [if_neg c21] at H
          have c21b0 : decide (x7_3 < (l1_1.length : Int)) = false := decide_eq_false c21
          clear c21
          by_cases c34 : x6_3 = true
          ·subst c34
           replace H := it H rfl
           have H' := Aside0.mk H
           clear H
           have hnb35 := NB231_230.out
           have hnc35 := NB230_231.out
           obtain ⟨hcz36_0, hcz36_1, hfz36_0, hfz36_1⟩ := zc2 BK231
           go_wp2
           go_roundg k3
           case measure => have := HJ2.out; have := HK2.out; have := HK3.out; omega
           case rel => exact ⟨(wrap64 (x5_2 + 1)), rs, H', ⟨by have := HJ2.out; have := HK2.out; have := HK3.out; omega⟩, ⟨bk BK230⟩, ⟨bk BK231⟩, ⟨bq⟩⟩
          ·replace c34 := Bool.eq_false_iff.mpr c34
           subst c34
           have H1 : (some false) = some r := by rw [if_neg (show ¬ (false = true) by decide)] at H; exact H
           clear H
           have H := H1
           clear H1
           obtain rfl := Option.some.inj H
           have hnb37 := NB231_230.out
           have hnc37 := NB230_231.out
           obtain ⟨hcz38_0, hcz38_1, hfz38_0, hfz38_1⟩ := zc2 BK231
           go_wp2
           go_ret
           exact ⟨re, bq⟩
      ·rw [if_neg c18] at H
       have c18b0 : decide (x5_2 < (l0_1.length : Int)) = false := decide_eq_false c18
       clear c18
       obtain rfl := Option.some.inj H
       have hnb39 := NB230_231.out
       have hnc39 := NB231_230.out
       obtain ⟨hcz40_0, hcz40_1, hfz40_0, hfz40_1⟩ := zc2 BK230
       go_wp2
       go_ret
       exact ⟨re, bq⟩
set_option maxHeartbeats 8000000 in
set_option maxRecDepth 100000 in
theorem impl_within.calls (a0_0 : Int) (a0_1 : Int) (a0_2 : Int) (a0_3 : Int) (a0_4 : Int) (a0_5 : Int) (a1_0 : Int) (a1_1 : Int) (a1_2 : Int) (a1_3 : Int) (a1_4 : Int) (a1_5 : Int) (r : Bool) (w : World) (h : impl_within.f a0_0 a0_1 a0_2 a0_3 a0_4 a0_5 a1_0 a1_1 a1_2 a1_3 a1_4 a1_5 = some r) :
  Calls Try.prog 57 #[.agg #[.int .i64 a0_0, .int .i64 a0_1, .int .i64 a0_2, .int .i64 a0_3, .int .i64 a0_4, .int .i64 a0_5], .agg #[.int .i64 a1_0, .int .i64 a1_1, .int .i64 a1_2, .int .i64 a1_3, .int .i64 a1_4, .int .i64 a1_5]] w fun e w' => e = .returned (.bool r) ∧ Below w.heap.size w w' := by
 have hu26 := Try.underlying26
 have HB := ra (Below.refl w.heap.size w)
 have H : (if a0_0 = a1_0 then (if a0_1 = a1_1 then (if a1_2 ≤ a0_2 then (if a0_3 ≤ a1_3 then (if a1_4 ≤ a0_4 then (some (decide (a0_5 ≤ a1_5))) else (some false)) else (some false)) else (some false)) else (some false)) else (some false)) = some r := h
 clear h
 by_cases c3 : a0_0 = a1_0
 ·rw [if_pos c3] at H
  have c3b0 : (a0_0 == a1_0) = true := beq_iff_eq.mpr c3
  have c3b1 : (a0_0 != a1_0) = false := bne_eq_false_iff_eq.mpr c3
  clear c3
  by_cases c4 : a0_1 = a1_1
  ·rw [if_pos c4] at H
   have c4b0 : (a0_1 == a1_1) = true := beq_iff_eq.mpr c4
   have c4b1 : (a0_1 != a1_1) = false := bne_eq_false_iff_eq.mpr c4
   clear c4
   by_cases c5 : a1_2 ≤ a0_2
   ·rw [if_pos c5] at H
    have c5b0 : decide (a1_2 ≤ a0_2) = true := decide_eq_true c5
    clear c5
    by_cases c6 : a0_3 ≤ a1_3
    ·rw [if_pos c6] at H
     have c6b0 : decide (a0_3 ≤ a1_3) = true := decide_eq_true c6
     clear c6
     by_cases c7 : a1_4 ≤ a0_4
     ·rw [if_pos c7] at H
      have c7b0 : decide (a1_4 ≤ a0_4) = true := decide_eq_true c7
      clear c7
      obtain rfl := Option.some.inj H
      go_enter Try.func57, Try.ntmps57
      go_wp2_with (first | ((with_reducible refine gate_dst (N := 2) rfl ?_); refine be 2 #[.int .i64 a0_0, .int .i64 a0_1, .int .i64 a0_2, .int .i64 a0_3, .int .i64 a0_4, .int .i64 a0_5] 26 ?_; intro gb237 hg w8 hbox hb; have _ := bs hb; have _ := ra (hbox); have _ := bz (w0 := w) hg; have _ := bz (w0 := w) hg; clear HB; rename_i HB BK237 GW237 GE237; clear hb hbox hg) | ((with_reducible refine gate_dst (N := 3) rfl ?_); refine be 3 #[.int .i64 a1_0, .int .i64 a1_1, .int .i64 a1_2, .int .i64 a1_3, .int .i64 a1_4, .int .i64 a1_5] 26 ?_; intro gb238 hg w9 hbox hb; have _ := bb (bk BK237) hb; have _ := bs hb; have _ := ra (hbox); have _ := bz (w0 := w) hg; have _ := bz (w0 := w) hg; have _ := bn hg (bk BK237); have _ := bm hg (bk BK237); clear BK237 HB; rename_i BK237 HB BK238 GW238 GE238 NB237_238 NB238_237; clear hb hbox hg; have hnb10 := NB237_238.out; have hnc10 := NB238_237.out; obtain ⟨hcz11_0, hcz11_1, hcz11_2, hcz11_3, hcz11_4, hcz11_5, hfz11_0, hfz11_1, hfz11_2, hfz11_3, hfz11_4, hfz11_5⟩ := zc6 BK237; obtain ⟨hcz12_0, hcz12_1, hcz12_2, hcz12_3, hcz12_4, hcz12_5, hfz12_0, hfz12_1, hfz12_2, hfz12_3, hfz12_4, hfz12_5⟩ := zc6 BK238))
      go_ret
      exact ⟨re, bq⟩
     ·rw [if_neg c7] at H
      have c7b0 : decide (a1_4 ≤ a0_4) = false := decide_eq_false c7
      clear c7
      obtain rfl := Option.some.inj H
      go_enter Try.func57, Try.ntmps57
      go_wp2_with (first | ((with_reducible refine gate_dst (N := 2) rfl ?_); refine be 2 #[.int .i64 a0_0, .int .i64 a0_1, .int .i64 a0_2, .int .i64 a0_3, .int .i64 a0_4, .int .i64 a0_5] 26 ?_; intro gb237 hg w13 hbox hb; have _ := bs hb; have _ := ra (hbox); have _ := bz (w0 := w) hg; have _ := bz (w0 := w) hg; clear HB; rename_i HB BK237 GW237 GE237; clear hb hbox hg) | ((with_reducible refine gate_dst (N := 3) rfl ?_); refine be 3 #[.int .i64 a1_0, .int .i64 a1_1, .int .i64 a1_2, .int .i64 a1_3, .int .i64 a1_4, .int .i64 a1_5] 26 ?_; intro gb238 hg w14 hbox hb; have _ := bb (bk BK237) hb; have _ := bs hb; have _ := ra (hbox); have _ := bz (w0 := w) hg; have _ := bz (w0 := w) hg; have _ := bn hg (bk BK237); have _ := bm hg (bk BK237); clear BK237 HB; rename_i BK237 HB BK238 GW238 GE238 NB237_238 NB238_237; clear hb hbox hg; have hnb15 := NB237_238.out; have hnc15 := NB238_237.out; obtain ⟨hcz16_0, hcz16_1, hcz16_2, hcz16_3, hcz16_4, hcz16_5, hfz16_0, hfz16_1, hfz16_2, hfz16_3, hfz16_4, hfz16_5⟩ := zc6 BK237; obtain ⟨hcz17_0, hcz17_1, hcz17_2, hcz17_3, hcz17_4, hcz17_5, hfz17_0, hfz17_1, hfz17_2, hfz17_3, hfz17_4, hfz17_5⟩ := zc6 BK238))
      go_ret
      exact ⟨re, bq⟩
    ·rw [if_neg c6] at H
     have c6b0 : decide (a0_3 ≤ a1_3) = false := decide_eq_false c6
     clear c6
     obtain rfl := Option.some.inj H
     go_enter Try.func57, Try.ntmps57
     go_wp2_with (first | ((with_reducible refine gate_dst (N := 2) rfl ?_); refine be 2 #[.int .i64 a0_0, .int .i64 a0_1, .int .i64 a0_2, .int .i64 a0_3, .int .i64 a0_4, .int .i64 a0_5] 26 ?_; intro gb237 hg w18 hbox hb; have _ := bs hb; have _ := ra (hbox); have _ := bz (w0 := w) hg; have _ := bz (w0 := w) hg; clear HB; rename_i HB BK237 GW237 GE237; clear hb hbox hg) | ((with_reducible refine gate_dst (N := 3) rfl ?_); refine be 3 #[.int .i64 a1_0, .int .i64 a1_1, .int .i64 a1_2, .int .i64 a1_3, .int .i64 a1_4, .int .i64 a1_5] 26 ?_; intro gb238 hg w19 hbox hb; have _ := bb (bk BK237) hb; have _ := bs hb; have _ := ra (hbox); have _ := bz (w0 := w) hg; have _ := bz (w0 := w) hg; have _ := bn hg (bk BK237); have _ := bm hg (bk BK237); clear BK237 HB; rename_i BK237 HB BK238 GW238 GE238 NB237_238 NB238_237; clear hb hbox hg; have hnb20 := NB237_238.out; have hnc20 := NB238_237.out; obtain ⟨hcz21_0, hcz21_1, hcz21_2, hcz21_3, hcz21_4, hcz21_5, hfz21_0, hfz21_1, hfz21_2, hfz21_3, hfz21_4, hfz21_5⟩ := zc6 BK237; obtain ⟨hcz22_0, hcz22_1, hcz22_2, hcz22_3, hcz22_4, hcz22_5, hfz22_0, hfz22_1, hfz22_2, hfz22_3, hfz22_4, hfz22_5⟩ := zc6 BK238))
     go_ret
     exact ⟨re, bq⟩
   ·rw [if_neg c5] at H
    have c5b0 : decide (a1_2 ≤ a0_2) = false := decide_eq_false c5
    clear c5
    obtain rfl := Option.some.inj H
    go_enter Try.func57, Try.ntmps57
    go_wp2_with (first | ((with_reducible refine gate_dst (N := 2) rfl ?_); refine be 2 #[.int .i64 a0_0, .int .i64 a0_1, .int .i64 a0_2, .int .i64 a0_3, .int .i64 a0_4, .int .i64 a0_5] 26 ?_; intro gb237 hg w23 hbox hb; have _ := bs hb; have _ := ra (hbox); have _ := bz (w0 := w) hg; have _ := bz (w0 := w) hg; clear HB; rename_i HB BK237 GW237 GE237; clear hb hbox hg) | ((with_reducible refine gate_dst (N := 3) rfl ?_); refine be 3 #[.int .i64 a1_0, .int .i64 a1_1, .int .i64 a1_2, .int .i64 a1_3, .int .i64 a1_4, .int .i64 a1_5] 26 ?_; intro gb238 hg w24 hbox hb; have _ := bb (bk BK237) hb; have _ := bs hb; have _ := ra (hbox); have _ := bz (w0 := w) hg; have _ := bz (w0 := w) hg; have _ := bn hg (bk BK237); have _ := bm hg (bk BK237); clear BK237 HB; rename_i BK237 HB BK238 GW238 GE238 NB237_238 NB238_237; clear hb hbox hg; have hnb25 := NB237_238.out; have hnc25 := NB238_237.out; obtain ⟨hcz26_0, hcz26_1, hcz26_2, hcz26_3, hcz26_4, hcz26_5, hfz26_0, hfz26_1, hfz26_2, hfz26_3, hfz26_4, hfz26_5⟩ := zc6 BK237; obtain ⟨hcz27_0, hcz27_1, hcz27_2, hcz27_3, hcz27_4, hcz27_5, hfz27_0, hfz27_1, hfz27_2, hfz27_3, hfz27_4, hfz27_5⟩ := zc6 BK238))
    go_ret
    exact ⟨re, bq⟩
  ·rw [if_neg c4] at H
   have c4b0 : (a0_1 == a1_1) = false := beq_eq_false_iff_ne.mpr c4
   have c4b1 : (a0_1 != a1_1) = true := bne_iff_ne.mpr c4
   obtain rfl := Option.some.inj H
   go_enter Try.func57, Try.ntmps57
   go_wp2_with (first | ((with_reducible refine gate_dst (N := 2) rfl ?_); refine be 2 #[.int .i64 a0_0, .int .i64 a0_1, .int .i64 a0_2, .int .i64 a0_3, .int .i64 a0_4, .int .i64 a0_5] 26 ?_; intro gb237 hg w28 hbox hb; have _ := bs hb; have _ := ra (hbox); have _ := bz (w0 := w) hg; have _ := bz (w0 := w) hg; clear HB; rename_i HB BK237 GW237 GE237; clear hb hbox hg) | ((with_reducible refine gate_dst (N := 3) rfl ?_); refine be 3 #[.int .i64 a1_0, .int .i64 a1_1, .int .i64 a1_2, .int .i64 a1_3, .int .i64 a1_4, .int .i64 a1_5] 26 ?_; intro gb238 hg w29 hbox hb; have _ := bb (bk BK237) hb; have _ := bs hb; have _ := ra (hbox); have _ := bz (w0 := w) hg; have _ := bz (w0 := w) hg; have _ := bn hg (bk BK237); have _ := bm hg (bk BK237); clear BK237 HB; rename_i BK237 HB BK238 GW238 GE238 NB237_238 NB238_237; clear hb hbox hg; have hnb30 := NB237_238.out; have hnc30 := NB238_237.out; obtain ⟨hcz31_0, hcz31_1, hcz31_2, hcz31_3, hcz31_4, hcz31_5, hfz31_0, hfz31_1, hfz31_2, hfz31_3, hfz31_4, hfz31_5⟩ := zc6 BK237; obtain ⟨hcz32_0, hcz32_1, hcz32_2, hcz32_3, hcz32_4, hcz32_5, hfz32_0, hfz32_1, hfz32_2, hfz32_3, hfz32_4, hfz32_5⟩ := zc6 BK238))
   go_ret
   exact ⟨re, bq⟩
 ·rw [if_neg c3] at H
  have c3b0 : (a0_0 == a1_0) = false := beq_eq_false_iff_ne.mpr c3
  have c3b1 : (a0_0 != a1_0) = true := bne_iff_ne.mpr c3
  obtain rfl := Option.some.inj H
  go_enter Try.func57, Try.ntmps57
  go_wp2_with (first | ((with_reducible refine gate_dst (N := 2) rfl ?_); refine be 2 #[.int .i64 a0_0, .int .i64 a0_1, .int .i64 a0_2, .int .i64 a0_3, .int .i64 a0_4, .int .i64 a0_5] 26 ?_; intro gb237 hg w33 hbox hb; have _ := bs hb; have _ := ra (hbox); have _ := bz (w0 := w) hg; have _ := bz (w0 := w) hg; clear HB; rename_i HB BK237 GW237 GE237; clear hb hbox hg) | ((with_reducible refine gate_dst (N := 3) rfl ?_); refine be 3 #[.int .i64 a1_0, .int .i64 a1_1, .int .i64 a1_2, .int .i64 a1_3, .int .i64 a1_4, .int .i64 a1_5] 26 ?_; intro gb238 hg w34 hbox hb; have _ := bb (bk BK237) hb; have _ := bs hb; have _ := ra (hbox); have _ := bz (w0 := w) hg; have _ := bz (w0 := w) hg; have _ := bn hg (bk BK237); have _ := bm hg (bk BK237); clear BK237 HB; rename_i BK237 HB BK238 GW238 GE238 NB237_238 NB238_237; clear hb hbox hg; have hnb35 := NB237_238.out; have hnc35 := NB238_237.out; obtain ⟨hcz36_0, hcz36_1, hcz36_2, hcz36_3, hcz36_4, hcz36_5, hfz36_0, hfz36_1, hfz36_2, hfz36_3, hfz36_4, hfz36_5⟩ := zc6 BK237; obtain ⟨hcz37_0, hcz37_1, hcz37_2, hcz37_3, hcz37_4, hcz37_5, hfz37_0, hfz37_1, hfz37_2, hfz37_3, hfz37_4, hfz37_5⟩ := zc6 BK238))
  go_ret
  exact ⟨re, bq⟩
set_option maxHeartbeats 8000000 in
set_option maxRecDepth 100000 in
theorem impl_ProbeSmaller.calls (k : Nat) (a0_0 : ByteArray) (A0_1 : Option Addr) (c0_1 : Nat) (l0_1 : List (S26)) (a1_0 : ByteArray) (A1_1 : Option Addr) (c1_1 : Nat) (l1_1 : List (S26)) (r : Bool) (w : World) (hr0_1 : Kd.C k26 w A0_1 l0_1.length l0_1) (hc0_1 : l0_1.length ≤ c0_1) (hr1_1 : Kd.C k26 w A1_1 l1_1.length l1_1) (hc1_1 : l1_1.length ≤ c1_1) (h : impl_ProbeSmaller.f k a0_0 l0_1 a1_0 l1_1 = some r) :
  Calls Try.prog 26 #[.agg #[.string a0_0, .slice A0_1 l0_1.length c0_1], .agg #[.string a1_0, .slice A1_1 l1_1.length c1_1]] w fun e w' => e = .returned (.bool r) ∧ Below w.heap.size w w' := by
 have hu39 := Try.underlying39
 have hu26 := Try.underlying26
 have HR0_1 := Aside0.mk hr0_1
 have HC0_1 := Aside0.mk hc0_1
 clear hr0_1 hc0_1
 have HR1_1 := Aside0.mk hr1_1
 have HC1_1 := Aside0.mk hc1_1
 clear hr1_1 hc1_1
 have HB := ra (Below.refl w.heap.size w)
 have H : ((impl_ProbeTubeOk.f k a0_0 l0_1).bind fun t241 => (if t241 = true then ((impl_ProbeTubeOk.f k a1_0 l1_1).bind fun t242 => (impl_ProbeSmaller.j0 k (!t242) a0_0 l0_1 a1_0 l1_1)) else (impl_ProbeSmaller.j0 k true a0_0 l0_1 a1_0 l1_1))) = some r := h
 clear h
 have HC3 := Aside0.mk H
 clear H
 go_enter Try.func26, Try.ntmps26
 go_upto_region 1 with (first | ((with_reducible refine gate_dst (N := 2) rfl ?_); refine be 2 #[.string a0_0, .slice A0_1 l0_1.length c0_1] 39 ?_; intro gb239 hg w4 hbox hb; have _ := bs hb; have _ := ra (hbox); have _ := bz (w0 := w) hg; have _ := bz (w0 := w) hg; clear HB; rename_i HB BK239 GW239 GE239; clear hb hbox hg) | ((with_reducible refine gate_dst (N := 3) rfl ?_); refine be 3 #[.string a1_0, .slice A1_1 l1_1.length c1_1] 39 ?_; intro gb240 hg w5 hbox hb; have _ := bb (bk BK239) hb; have _ := bs hb; have _ := ra (hbox); have _ := bz (w0 := w) hg; have _ := bz (w0 := w) hg; have _ := bn hg (bk BK239); have _ := bm hg (bk BK239); clear BK239 HB; rename_i BK239 HB BK240 GW240 GE240 NB239_240 NB240_239; clear hb hbox hg))
 (try simp only [Act.put, List.setIfInBounds_toArray, List.set_cons_zero, List.set_cons_succ])
 go_cut [17] (fun v17 wc => ∃ (kq : Nat) (x17_2 : Bool), v17 = .bool x17_2 ∧ Aside0 (impl_ProbeSmaller.j0 kq x17_2 a0_0 l0_1 a1_0 l1_1 = some r) ∧ Aside0 (kq ≤ k) ∧ Aside0 (wc.heap[gb239]? = some (.cells #[.string a0_0, (.slice A0_1 l0_1.length c0_1)] 39 (0, 0))) ∧ Aside0 (wc.heap[gb240]? = some (.cells #[.string a1_0, (.slice A1_1 l1_1.length c1_1)] 39 (0, 0))) ∧ Aside0 (Below w.heap.size w wc))
 case first =>
  have H := HC3.out
  clear HC3
  obtain ⟨t241, A6, H⟩ := bo H
  by_cases c7 : t241 = true
  ·subst c7
   replace H := it H rfl
   obtain ⟨t242, A8, H⟩ := bo H
   have H' := Aside0.mk H
   clear H
   have hnb9 := NB239_240.out
   have hnc9 := NB240_239.out
   obtain ⟨hcz10_0, hcz10_1, hfz10_0, hfz10_1⟩ := zc2 BK239
   go_wp2_with (first | ((with_reducible refine gate_callee (f := 23) rfl ?_); refine gl (some 11) Try.func23 #[.agg #[.string a0_0, .slice A0_1 l0_1.length c0_1]] ?_; (with_reducible refine (impl_ProbeTubeOk.calls k a0_0 _ _ l0_1 true _ ?side1 ?side2 A6.out).mono ?_); (case side1 => exact sc HR0_1); (case side2 => exact HC0_1.out); rintro e w11 ⟨rfl, hb⟩; refine ⟨_, rfl, ?_⟩; have _ := bb (bk BK239) hb; have _ := bb (bk BK240) hb; have _ := bs hb; clear BK239 BK240 HB; rename_i BK239 BK240 HB; (try clear hb); (try clear hb2); (try clear hk); (try clear hi); obtain ⟨hcz12_0, hcz12_1, hfz12_0, hfz12_1⟩ := zc2 BK240) | (go_at_call 23; (with_reducible refine (impl_ProbeTubeOk.calls k a1_0 _ _ l1_1 t242 _ ?side1 ?side2 A8.out).mono ?_); (case side1 => exact sc HR1_1); (case side2 => exact HC1_1.out); rintro e w13 ⟨rfl, hb⟩; have _ := bb (bk BK239) hb; have _ := bb (bk BK240) hb; have _ := bs hb; clear BK239 BK240 HB; rename_i BK239 BK240 HB; (try clear hb); (try clear hb2); (try clear hk); (try clear hi)))
   go_meet
   case rel => exact ⟨_, (!t242), rs, H', ⟨by first | omega | exact Nat.le_refl _⟩, ⟨bk BK239⟩, ⟨bk BK240⟩, ⟨bq⟩⟩
  ·replace c7 := Bool.eq_false_iff.mpr c7
   subst c7
   have H1 : (impl_ProbeSmaller.j0 k true a0_0 l0_1 a1_0 l1_1) = some r := by rw [if_neg (show ¬ (false = true) by decide)] at H; exact H
   clear H
   have H := H1
   clear H1
   have H' := Aside0.mk H
   clear H
   have hnb14 := NB239_240.out
   have hnc14 := NB240_239.out
   obtain ⟨hcz15_0, hcz15_1, hfz15_0, hfz15_1⟩ := zc2 BK239
   go_wp2_with (first | ((with_reducible refine gate_callee (f := 23) rfl ?_); refine gl (some 11) Try.func23 #[.agg #[.string a0_0, .slice A0_1 l0_1.length c0_1]] ?_; (with_reducible refine (impl_ProbeTubeOk.calls k a0_0 _ _ l0_1 false _ ?side1 ?side2 A6.out).mono ?_); (case side1 => exact sc HR0_1); (case side2 => exact HC0_1.out); rintro e w16 ⟨rfl, hb⟩; refine ⟨_, rfl, ?_⟩; have _ := bb (bk BK239) hb; have _ := bb (bk BK240) hb; have _ := bs hb; clear BK239 BK240 HB; rename_i BK239 BK240 HB; (try clear hb); (try clear hb2); (try clear hk); (try clear hi)))
   go_meet
   case rel => exact ⟨_, (true), rs, H', ⟨by first | omega | exact Nat.le_refl _⟩, ⟨bk BK239⟩, ⟨bk BK240⟩, ⟨bq⟩⟩
 case rest =>
  clear HC3
  try clear c7
  try clear hcz10_0
  try clear hcz10_1
  try clear hcz12_0
  try clear hcz12_1
  try clear hcz15_0
  try clear hcz15_1
  try clear hfz10_0
  try clear hfz10_1
  try clear hfz12_0
  try clear hfz12_1
  try clear hfz15_0
  try clear hfz15_1
  obtain ⟨kq, x17_2, rfl, HA, HJ2, BK239, BK240, HB⟩ := hcut
  cases kq with
  | zero => exact absurd HA.out (by simp [impl_ProbeSmaller.j0])
  | succ kj2 =>
   have H := HA.out
   clear HA
   simp only [impl_ProbeSmaller.j0] at H
   by_cases c17 : x17_2 = true
   ·subst c17
    replace H := it H rfl
    obtain rfl := Option.some.inj H
    go_wp2
    go_ret
    exact ⟨re, bq⟩
   ·replace c17 := Bool.eq_false_iff.mpr c17
    subst c17
    have H1 : (impl_ProbeSmaller.l0 kj2 l0_1 (l0_1.length : Int) 0 a1_0 l1_1) = some r := by rw [if_neg (show ¬ (false = true) by decide)] at H; exact H
    clear H
    have H := H1
    clear H1
    have H' := Aside0.mk H
    clear H
    have hnb18 := NB239_240.out
    have hnc18 := NB240_239.out
    obtain ⟨hcz19_0, hcz19_1, hfz19_0, hfz19_1⟩ := zc2 BK239
    go_wp2
    go_loopg [21] kj2 (fun kq v21 w' => ∃ (x21_2 : Int), v21 = .int .i64 x21_2 ∧ Aside0 (impl_ProbeSmaller.l0 kq l0_1 (l0_1.length : Int) x21_2 a1_0 l1_1 = some r) ∧ Aside0 (kq ≤ kj2) ∧ Aside0 (w'.heap[gb239]? = some (.cells #[.string a0_0, (.slice A0_1 l0_1.length c0_1)] 39 (0, 0))) ∧ Aside0 (w'.heap[gb240]? = some (.cells #[.string a1_0, (.slice A1_1 l1_1.length c1_1)] 39 (0, 0))) ∧ Aside0 (Below w.heap.size w w'))
    case atStart => exact ⟨(0), rs, H', ⟨Nat.le_refl _⟩, ⟨bk BK239⟩, ⟨bk BK240⟩, ⟨bq⟩⟩
    case round =>
     clear H'
     try clear c7
     try clear c17
     try clear hcz10_0
     try clear hcz10_1
     try clear hcz12_0
     try clear hcz12_1
     try clear hcz15_0
     try clear hcz15_1
     try clear hcz19_0
     try clear hcz19_1
     try clear hfz10_0
     try clear hfz10_1
     try clear hfz12_0
     try clear hfz12_1
     try clear hfz15_0
     try clear hfz15_1
     try clear hfz19_0
     try clear hfz19_1
     obtain ⟨x21_2, rfl, HA, HK2, BK239, BK240, HB⟩ := hrel
     cases gk with
     | zero => exact absurd HA.out (by simp [impl_ProbeSmaller.l0])
     | succ k2 =>
      have H := HA.out
      clear HA
      simp only [impl_ProbeSmaller.l0] at H
      by_cases c20 : x21_2 < (l0_1.length : Int)
      ·rw [if_pos c20] at H
       have c20b0 : decide (x21_2 < (l0_1.length : Int)) = true := decide_eq_true c20
       clear c20
       by_cases c21 : 0 ≤ x21_2
       ·rw [if_pos c21] at H
        have c21b0 : decide (0 ≤ x21_2) = true := decide_eq_true c21
        clear c21
        by_cases c22 : x21_2 < (l0_1.length : Int)
        ·rw [if_pos c22] at H
         have c22b0 : decide (x21_2 < (l0_1.length : Int)) = true := decide_eq_true c22
         clear c22
         have H' := Aside0.mk H
         clear H
         have p243 : 0 ≤ (x21_2 : Int) := od
         have q243 : x21_2 < (l0_1.length : Int) := od
         obtain ⟨ad243, e243, hx243_0, hx243_1, hx243_2, hx243_3, hx243_4, hx243_5⟩ := at_T26 HR0_1.out x21_2 p243 q243
         cases e243
         replace hx243_0 := hc HB hx243_0
         replace hx243_1 := hc HB hx243_1
         replace hx243_2 := hc HB hx243_2
         replace hx243_3 := hc HB hx243_3
         replace hx243_4 := hc HB hx243_4
         replace hx243_5 := hc HB hx243_5
         replace p243 := eq_true p243
         replace q243 := eq_true q243
         go_wp2_with (first | ((with_reducible refine gate_dst (N := 6) rfl ?_); refine be 6 #[.int .i64 0, .int .i64 0, .int .i64 0, .int .i64 0, .int .i64 0, .int .i64 0] 26 ?_; intro gb244 hg w23 hbox hb; have _ := bb (bk BK239) hb; have _ := bb (bk BK240) hb; have _ := bs hb; have _ := ra (hbox); have _ := bz (w0 := w) hg; have _ := bz (w0 := w) hg; have _ := bn hg (bk BK239); have _ := bm hg (bk BK239); have _ := bn hg (bk BK240); have _ := bm hg (bk BK240); clear BK239 BK240 HB; rename_i BK239 BK240 HB BK244 GW244 GE244 NB239_244 NB244_239 NB240_244 NB244_240; clear hb hbox hg; have hnb24 := NB244_239.out; have hnc24 := NB239_244.out; have hnb25 := NB244_240.out; have hnc25 := NB240_244.out; obtain ⟨hcz26_0, hcz26_1, hcz26_2, hcz26_3, hcz26_4, hcz26_5, hfz26_0, hfz26_1, hfz26_2, hfz26_3, hfz26_4, hfz26_5⟩ := zc6 BK244; have hnb27 := NB240_239.out; have hnc27 := NB239_240.out; obtain ⟨hcz28_0, hcz28_1, hfz28_0, hfz28_1⟩ := zc2 BK240))
         go_loopg [7, 28] k2 (fun kq v7 v28 w' => ∃ (x7_3 : Bool) (x28_3 : Int), v7 = .bool x7_3 ∧ v28 = .int .i64 x28_3 ∧ Aside0 (impl_ProbeSmaller.l1 kq x7_3 l0_1 (l0_1.length : Int) x21_2 l1_1 (l1_1.length : Int) x28_3 a1_0 l1_1 ((rd_T26 l0_1 x21_2).f0) ((rd_T26 l0_1 x21_2).f1) ((rd_T26 l0_1 x21_2).f2) ((rd_T26 l0_1 x21_2).f3) ((rd_T26 l0_1 x21_2).f4) ((rd_T26 l0_1 x21_2).f5) = some r) ∧ Aside0 (kq ≤ k2) ∧ Aside0 (w'.heap[gb239]? = some (.cells #[.string a0_0, (.slice (some ad243) l0_1.length c0_1)] 39 (0, 0))) ∧ Aside0 (w'.heap[gb240]? = some (.cells #[.string a1_0, (.slice A1_1 l1_1.length c1_1)] 39 (0, 0))) ∧ Aside0 (w'.heap[gb244]? = some (.cells #[.int .i64 ((rd_T26 l0_1 x21_2).f0), .int .i64 ((rd_T26 l0_1 x21_2).f1), .int .i64 ((rd_T26 l0_1 x21_2).f2), .int .i64 ((rd_T26 l0_1 x21_2).f3), .int .i64 ((rd_T26 l0_1 x21_2).f4), .int .i64 ((rd_T26 l0_1 x21_2).f5)] 26 (0, 0))) ∧ Aside0 (Below w.heap.size w w'))
         case atStart => exact ⟨(false), (0), rs, rs, H', ⟨Nat.le_refl _⟩, ⟨bk BK239⟩, ⟨bk BK240⟩, ⟨bp BK244⟩, ⟨bq⟩⟩
         case round =>
          clear H'
          try clear c7
          try clear c17
          try clear c20
          try clear c20b0
          try clear c21
          try clear c21b0
          try clear c22
          try clear c22b0
          try clear hcz10_0
          try clear hcz10_1
          try clear hcz12_0
          try clear hcz12_1
          try clear hcz15_0
          try clear hcz15_1
          try clear hcz19_0
          try clear hcz19_1
          try clear hcz26_0
          try clear hcz26_1
          try clear hcz26_2
          try clear hcz26_3
          try clear hcz26_4
          try clear hcz26_5
          try clear hcz28_0
          try clear hcz28_1
          try clear hfz10_0
          try clear hfz10_1
          try clear hfz12_0
          try clear hfz12_1
          try clear hfz15_0
          try clear hfz15_1
          try clear hfz19_0
          try clear hfz19_1
          try clear hfz26_0
          try clear hfz26_1
          try clear hfz26_2
          try clear hfz26_3
          try clear hfz26_4
          try clear hfz26_5
          try clear hfz28_0
          try clear hfz28_1
          try clear hx243_0
          try clear hx243_1
          try clear hx243_2
          try clear hx243_3
          try clear hx243_4
          try clear hx243_5
          try clear p243
          try clear q243
          obtain ⟨x7_3, x28_3, rfl, rfl, HA, HK3, BK239, BK240, BK244, HB⟩ := hrel
          cases gk with
          | zero => exact absurd HA.out (by simp [impl_ProbeSmaller.l1])
          | succ k3 =>
           have H := HA.out
           clear HA
           simp only [impl_ProbeSmaller.l1] at H
           by_cases c29 : x28_3 < (l1_1.length : Int)
           ·rw [if_pos c29] at H
            have c29b0 : decide (x28_3 < (l1_1.length : Int)) = true := decide_eq_true c29
            clear c29
            by_cases c30 : 0 ≤ x28_3
            ·rw [if_pos c30] at H
             have c30b0 : decide (0 ≤ x28_3) = true := decide_eq_true c30
             clear c30
             by_cases c31 : x28_3 < (l1_1.length : Int)
             ·rw [if_pos c31] at H
              have c31b0 : decide (x28_3 < (l1_1.length : Int)) = true := decide_eq_true c31
              clear c31
              by_cases c32 : x7_3 = true
              ·subst c32
               replace H := it H rfl
               have H' := Aside0.mk H
               clear H
               have p245 : 0 ≤ (x28_3 : Int) := od
               have q245 : x28_3 < (l1_1.length : Int) := od
               obtain ⟨ad245, e245, hx245_0, hx245_1, hx245_2, hx245_3, hx245_4, hx245_5⟩ := at_T26 HR1_1.out x28_3 p245 q245
               cases e245
               replace hx245_0 := hc HB hx245_0
               replace hx245_1 := hc HB hx245_1
               replace hx245_2 := hc HB hx245_2
               replace hx245_3 := hc HB hx245_3
               replace hx245_4 := hc HB hx245_4
               replace hx245_5 := hc HB hx245_5
               replace p245 := eq_true p245
               replace q245 := eq_true q245
               go_wp2_with (first | ((with_reducible refine gate_dst (N := 9) rfl ?_); refine be 9 #[.int .i64 0, .int .i64 0, .int .i64 0, .int .i64 0, .int .i64 0, .int .i64 0] 26 ?_; intro gb246 hg w33 hbox hb; have _ := bb (bk BK239) hb; have _ := bb (bk BK240) hb; have _ := bb (bk BK244) hb; have _ := bs hb; have _ := ra (hbox); have _ := bz (w0 := w) hg; have _ := bz (w0 := w) hg; have _ := bn hg (bk BK239); have _ := bm hg (bk BK239); have _ := bn hg (bk BK240); have _ := bm hg (bk BK240); have _ := bn hg (bk BK244); have _ := bm hg (bk BK244); clear BK239 BK240 BK244 HB; rename_i BK239 BK240 BK244 HB BK246 GW246 GE246 NB239_246 NB246_239 NB240_246 NB246_240 NB244_246 NB246_244; clear hb hbox hg; have hnb34 := NB246_239.out; have hnc34 := NB239_246.out; have hnb35 := NB246_240.out; have hnc35 := NB240_246.out; have hnb36 := NB246_244.out; have hnc36 := NB244_246.out; obtain ⟨hcz37_0, hcz37_1, hcz37_2, hcz37_3, hcz37_4, hcz37_5, hfz37_0, hfz37_1, hfz37_2, hfz37_3, hfz37_4, hfz37_5⟩ := zc6 BK246))
               go_roundg k3
               case measure => have := HJ2.out; have := HK2.out; have := HK3.out; omega
               case rel => exact ⟨(true), (wrap64 (x28_3 + 1)), rs, rs, H', ⟨by have := HJ2.out; have := HK2.out; have := HK3.out; omega⟩, ⟨bk BK239⟩, ⟨bk BK240⟩, ⟨bk BK244⟩, ⟨bq⟩⟩
              ·replace c32 := Bool.eq_false_iff.mpr c32
               subst c32
               have H1 : ((impl_within.f ((rd_T26 l0_1 x21_2).f0) ((rd_T26 l0_1 x21_2).f1) ((rd_T26 l0_1 x21_2).f2) ((rd_T26 l0_1 x21_2).f3) ((rd_T26 l0_1 x21_2).f4) ((rd_T26 l0_1 x21_2).f5) ((rd_T26 l1_1 x28_3).f0) ((rd_T26 l1_1 x28_3).f1) ((rd_T26 l1_1 x28_3).f2) ((rd_T26 l1_1 x28_3).f3) ((rd_T26 l1_1 x28_3).f4) ((rd_T26 l1_1 x28_3).f5)).bind fun t247 => (impl_ProbeSmaller.l1 k3 t247 l0_1 (l0_1.length : Int) x21_2 l1_1 (l1_1.length : Int) (wrap64 (x28_3 + 1)) a1_0 l1_1 ((rd_T26 l0_1 x21_2).f0) ((rd_T26 l0_1 x21_2).f1) ((rd_T26 l0_1 x21_2).f2) ((rd_T26 l0_1 x21_2).f3) ((rd_T26 l0_1 x21_2).f4) ((rd_T26 l0_1 x21_2).f5))) = some r := by rw [if_neg (show ¬ (false = true) by decide)] at H; exact H
               clear H
               have H := H1
               clear H1
               obtain ⟨t247, A38, H⟩ := bo H
               have H' := Aside0.mk H
               clear H
               have p245 : 0 ≤ (x28_3 : Int) := od
               have q245 : x28_3 < (l1_1.length : Int) := od
               obtain ⟨ad245, e245, hx245_0, hx245_1, hx245_2, hx245_3, hx245_4, hx245_5⟩ := at_T26 HR1_1.out x28_3 p245 q245
               cases e245
               replace hx245_0 := hc HB hx245_0
               replace hx245_1 := hc HB hx245_1
               replace hx245_2 := hc HB hx245_2
               replace hx245_3 := hc HB hx245_3
               replace hx245_4 := hc HB hx245_4
               replace hx245_5 := hc HB hx245_5
               replace p245 := eq_true p245
               replace q245 := eq_true q245
               go_wp2_with (first | ((with_reducible refine gate_dst (N := 9) rfl ?_); refine be 9 #[.int .i64 0, .int .i64 0, .int .i64 0, .int .i64 0, .int .i64 0, .int .i64 0] 26 ?_; intro gb246 hg w39 hbox hb; have _ := bb (bk BK239) hb; have _ := bb (bk BK240) hb; have _ := bb (bk BK244) hb; have _ := bs hb; have _ := ra (hbox); have _ := bz (w0 := w) hg; have _ := bz (w0 := w) hg; have _ := bn hg (bk BK239); have _ := bm hg (bk BK239); have _ := bn hg (bk BK240); have _ := bm hg (bk BK240); have _ := bn hg (bk BK244); have _ := bm hg (bk BK244); clear BK239 BK240 BK244 HB; rename_i BK239 BK240 BK244 HB BK246 GW246 GE246 NB239_246 NB246_239 NB240_246 NB246_240 NB244_246 NB246_244; clear hb hbox hg; have hnb40 := NB246_239.out; have hnc40 := NB239_246.out; have hnb41 := NB246_240.out; have hnc41 := NB240_246.out; have hnb42 := NB246_244.out; have hnc42 := NB244_246.out; obtain ⟨hcz43_0, hcz43_1, hcz43_2, hcz43_3, hcz43_4, hcz43_5, hfz43_0, hfz43_1, hfz43_2, hfz43_3, hfz43_4, hfz43_5⟩ := zc6 BK246; have hnb44 := NB244_239.out; have hnc44 := NB239_244.out; have hnb45 := NB244_240.out; have hnc45 := NB240_244.out; obtain ⟨hcz46_0, hcz46_1, hcz46_2, hcz46_3, hcz46_4, hcz46_5, hfz46_0, hfz46_1, hfz46_2, hfz46_3, hfz46_4, hfz46_5⟩ := zc6 BK244) | (go_at_call 57; (with_reducible refine (impl_within.calls ((rd_T26 l0_1 x21_2).f0) ((rd_T26 l0_1 x21_2).f1) ((rd_T26 l0_1 x21_2).f2) ((rd_T26 l0_1 x21_2).f3) ((rd_T26 l0_1 x21_2).f4) ((rd_T26 l0_1 x21_2).f5) ((rd_T26 l1_1 x28_3).f0) ((rd_T26 l1_1 x28_3).f1) ((rd_T26 l1_1 x28_3).f2) ((rd_T26 l1_1 x28_3).f3) ((rd_T26 l1_1 x28_3).f4) ((rd_T26 l1_1 x28_3).f5) t247 _ A38.out).mono ?_); rintro e w47 ⟨rfl, hb⟩; have _ := bb (bk BK239) hb; have _ := bb (bk BK240) hb; have _ := bb (bk BK244) hb; have _ := bb (o := .cells #[.int .i64 ((rd_T26 l1_1 x28_3).f0), .int .i64 ((rd_T26 l1_1 x28_3).f1), .int .i64 ((rd_T26 l1_1 x28_3).f2), .int .i64 ((rd_T26 l1_1 x28_3).f3), .int .i64 ((rd_T26 l1_1 x28_3).f4), .int .i64 ((rd_T26 l1_1 x28_3).f5)] 26 (0, 0)) (bp BK246) hb; have _ := bs hb; clear BK239 BK240 BK244 BK246 HB; rename_i BK239 BK240 BK244 BK246 HB; (try clear hb); (try clear hb2); (try clear hk); (try clear hi)))
               go_roundg k3
               case measure => have := HJ2.out; have := HK2.out; have := HK3.out; omega
               case rel => exact ⟨(t247), (wrap64 (x28_3 + 1)), rs, rs, H', ⟨by have := HJ2.out; have := HK2.out; have := HK3.out; omega⟩, ⟨bk BK239⟩, ⟨bk BK240⟩, ⟨bk BK244⟩, ⟨bq⟩⟩
             ·rw [if_neg c31] at H
              exact absurd H (by simp)
            ·rw [if_neg c30] at H
             exact absurd H (by simp)
           ·rw [if_neg c29] at H
            have c29b0 : decide (x28_3 < (l1_1.length : Int)) = false := decide_eq_false c29
            clear c29
            by_cases c48 : x7_3 = true
            ·subst c48
             replace H := it H rfl
             have H' := Aside0.mk H
             clear H
             go_wp2
             go_roundg k3
             case measure => have := HJ2.out; have := HK2.out; have := HK3.out; omega
             case rel => exact ⟨(wrap64 (x21_2 + 1)), rs, H', ⟨by have := HJ2.out; have := HK2.out; have := HK3.out; omega⟩, ⟨bk BK239⟩, ⟨bk BK240⟩, ⟨bq⟩⟩
            ·replace c48 := Bool.eq_false_iff.mpr c48
             subst c48
             have H1 : (some false) = some r := by rw [if_neg (show ¬ (false = true) by decide)] at H; exact H
             clear H
             have H := H1
             clear H1
             obtain rfl := Option.some.inj H
             go_wp2
             go_ret
             exact ⟨re, bq⟩
        ·rw [if_neg c22] at H
         exact absurd H (by simp)
       ·rw [if_neg c21] at H
        exact absurd H (by simp)
      ·rw [if_neg c20] at H
       have c20b0 : decide (x21_2 < (l0_1.length : Int)) = false := decide_eq_false c20
       clear c20
       obtain rfl := Option.some.inj H
       go_wp2
       go_ret
       exact ⟨re, bq⟩
end Go.Proofs.Ytfoapgcnjnogiaa.PA
