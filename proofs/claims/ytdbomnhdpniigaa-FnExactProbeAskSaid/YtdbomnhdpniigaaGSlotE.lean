/- Contracts of the functions laws_eqProbeSlot, laws_eqProbeSlotS, laws_eqProbeCell, laws_eqProbeCellS, laws_eqProbeIndex. (Began as a print of the kit's tool.) -/
import Derived.Test.YtdbomnhdpniigaaPAd
import Derived.Test.YtdbomnhdpniigaaCx
namespace Go.Proofs.Ytdbomnhdpniigaa.PA
open Go.RowKit Go.Proofs.YtdbomnhdpniigaaW.PrintWords Go.Proofs.YtdbomnhdpniigaaW.PrintLast Go.Proofs.YtdbomnhdpniigaaW.PrintMore Go.Proofs.Ytdbomnhdpniigaa.Z
attribute [local go_sem] max2_int min2_int max_two min_two max_three min_three max_four min_four
set_option linter.unusedVariables false
set_option linter.unusedSimpArgs false
set_option maxHeartbeats 8000000 in
set_option maxRecDepth 100000 in
theorem laws_eqProbeSlot.calls (a0_0 : Int) (a0_1 : Int) (a0_2 : Int) (a0_3 : Int) (a0_4 : ByteArray) (a0_5 : Int) (a1_0 : Int) (a1_1 : Int) (a1_2 : Int) (a1_3 : Int) (a1_4 : ByteArray) (a1_5 : Int) (r : Bool) (w : World) (h : laws_eqProbeSlot.f a0_0 a0_1 a0_2 a0_3 a0_4 a0_5 a1_0 a1_1 a1_2 a1_3 a1_4 a1_5 = some r) :
  Calls Try.prog 141 #[.agg #[.int .i64 a0_0, .int .i64 a0_1, .int .i64 a0_2, .int .i64 a0_3, .string a0_4, .int .i64 a0_5], .agg #[.int .i64 a1_0, .int .i64 a1_1, .int .i64 a1_2, .int .i64 a1_3, .string a1_4, .int .i64 a1_5]] w fun e w' => e = .returned (.bool r) ∧ Below w.heap.size w w' := by
 have hu101 := Try.underlying101
 have HB := ra (Below.refl w.heap.size w)
 have H : (if a0_0 = a1_0 then (if a0_1 = a1_1 then (if a0_2 = a1_2 then (if a0_3 = a1_3 then (if a0_4.toList = a1_4.toList then (if a0_5 = a1_5 then (some true) else (some false)) else (some false)) else (some false)) else (some false)) else (some false)) else (some false)) = some r := h
 clear h
 by_cases c3 : a0_0 = a1_0
 ·rw [if_pos c3] at H
  have c3b0 : (a0_0 == a1_0) = true := beq_iff_eq.mpr c3
  have c3b1 : (a0_0 != a1_0) = false := bne_eq_false_iff_eq.mpr c3
  clear c3
  by_cases c4 : a0_1 = a1_1
  ·rw [if_pos c4] at H
   have c4b0 : (a0_1 == a1_1) = true := beq_iff_eq.mpr c4
   have c4b1 : (a0_1 != a1_1) = false := bne_eq_false_iff_eq.mpr c4
   clear c4
   by_cases c5 : a0_2 = a1_2
   ·rw [if_pos c5] at H
    have c5b0 : (a0_2 == a1_2) = true := beq_iff_eq.mpr c5
    have c5b1 : (a0_2 != a1_2) = false := bne_eq_false_iff_eq.mpr c5
    clear c5
    by_cases c6 : a0_3 = a1_3
    ·rw [if_pos c6] at H
     have c6b0 : (a0_3 == a1_3) = true := beq_iff_eq.mpr c6
     have c6b1 : (a0_3 != a1_3) = false := bne_eq_false_iff_eq.mpr c6
     clear c6
     by_cases c7 : a0_4.toList = a1_4.toList
     ·rw [if_pos c7] at H
      have c7b0 : (a0_4.toList == a1_4.toList) = true := beq_iff_eq.mpr c7
      have c7b1 : (a0_4.toList != a1_4.toList) = false := bne_eq_false_iff_eq.mpr c7
      clear c7
      by_cases c8 : a0_5 = a1_5
      ·rw [if_pos c8] at H
       have c8b0 : (a0_5 == a1_5) = true := beq_iff_eq.mpr c8
       have c8b1 : (a0_5 != a1_5) = false := bne_eq_false_iff_eq.mpr c8
       clear c8
       obtain rfl := Option.some.inj H
       go_enter Try.func141, Try.ntmps141
       go_wp2_with (first | ((with_reducible refine gate_dst (N := 2) rfl ?_); refine be 2 #[.int .i64 a0_0, .int .i64 a0_1, .int .i64 a0_2, .int .i64 a0_3, .string a0_4, .int .i64 a0_5] 101 ?_; intro gb162 hg w9 hbox hb; have _ := bs hb; have _ := ra (hbox); have _ := bz (w0 := w) hg; have _ := bz (w0 := w) hg; clear HB; rename_i HB BK162 GW162 GE162; clear hb hbox hg) | ((with_reducible refine gate_dst (N := 3) rfl ?_); refine be 3 #[.int .i64 a1_0, .int .i64 a1_1, .int .i64 a1_2, .int .i64 a1_3, .string a1_4, .int .i64 a1_5] 101 ?_; intro gb163 hg w10 hbox hb; have _ := bb (bk BK162) hb; have _ := bs hb; have _ := ra (hbox); have _ := bz (w0 := w) hg; have _ := bz (w0 := w) hg; have _ := bn hg (bk BK162); have _ := bm hg (bk BK162); clear BK162 HB; rename_i BK162 HB BK163 GW163 GE163 NB162_163 NB163_162; clear hb hbox hg; have hnb11 := NB162_163.out; have hnc11 := NB163_162.out; obtain ⟨hcz12_0, hcz12_1, hcz12_2, hcz12_3, hcz12_4, hcz12_5, hfz12_0, hfz12_1, hfz12_2, hfz12_3, hfz12_4, hfz12_5⟩ := zc6 BK162; obtain ⟨hcz13_0, hcz13_1, hcz13_2, hcz13_3, hcz13_4, hcz13_5, hfz13_0, hfz13_1, hfz13_2, hfz13_3, hfz13_4, hfz13_5⟩ := zc6 BK163))
       go_ret
       exact ⟨re, bq⟩
      ·rw [if_neg c8] at H
       have c8b0 : (a0_5 == a1_5) = false := beq_eq_false_iff_ne.mpr c8
       have c8b1 : (a0_5 != a1_5) = true := bne_iff_ne.mpr c8
       obtain rfl := Option.some.inj H
       go_enter Try.func141, Try.ntmps141
       go_wp2_with (first | ((with_reducible refine gate_dst (N := 2) rfl ?_); refine be 2 #[.int .i64 a0_0, .int .i64 a0_1, .int .i64 a0_2, .int .i64 a0_3, .string a0_4, .int .i64 a0_5] 101 ?_; intro gb162 hg w14 hbox hb; have _ := bs hb; have _ := ra (hbox); have _ := bz (w0 := w) hg; have _ := bz (w0 := w) hg; clear HB; rename_i HB BK162 GW162 GE162; clear hb hbox hg) | ((with_reducible refine gate_dst (N := 3) rfl ?_); refine be 3 #[.int .i64 a1_0, .int .i64 a1_1, .int .i64 a1_2, .int .i64 a1_3, .string a1_4, .int .i64 a1_5] 101 ?_; intro gb163 hg w15 hbox hb; have _ := bb (bk BK162) hb; have _ := bs hb; have _ := ra (hbox); have _ := bz (w0 := w) hg; have _ := bz (w0 := w) hg; have _ := bn hg (bk BK162); have _ := bm hg (bk BK162); clear BK162 HB; rename_i BK162 HB BK163 GW163 GE163 NB162_163 NB163_162; clear hb hbox hg; have hnb16 := NB162_163.out; have hnc16 := NB163_162.out; obtain ⟨hcz17_0, hcz17_1, hcz17_2, hcz17_3, hcz17_4, hcz17_5, hfz17_0, hfz17_1, hfz17_2, hfz17_3, hfz17_4, hfz17_5⟩ := zc6 BK162; obtain ⟨hcz18_0, hcz18_1, hcz18_2, hcz18_3, hcz18_4, hcz18_5, hfz18_0, hfz18_1, hfz18_2, hfz18_3, hfz18_4, hfz18_5⟩ := zc6 BK163))
       go_ret
       exact ⟨re, bq⟩
     ·rw [if_neg c7] at H
      have c7b0 : (a0_4.toList == a1_4.toList) = false := beq_eq_false_iff_ne.mpr c7
      have c7b1 : (a0_4.toList != a1_4.toList) = true := bne_iff_ne.mpr c7
      obtain rfl := Option.some.inj H
      go_enter Try.func141, Try.ntmps141
      go_wp2_with (first | ((with_reducible refine gate_dst (N := 2) rfl ?_); refine be 2 #[.int .i64 a0_0, .int .i64 a0_1, .int .i64 a0_2, .int .i64 a0_3, .string a0_4, .int .i64 a0_5] 101 ?_; intro gb162 hg w19 hbox hb; have _ := bs hb; have _ := ra (hbox); have _ := bz (w0 := w) hg; have _ := bz (w0 := w) hg; clear HB; rename_i HB BK162 GW162 GE162; clear hb hbox hg) | ((with_reducible refine gate_dst (N := 3) rfl ?_); refine be 3 #[.int .i64 a1_0, .int .i64 a1_1, .int .i64 a1_2, .int .i64 a1_3, .string a1_4, .int .i64 a1_5] 101 ?_; intro gb163 hg w20 hbox hb; have _ := bb (bk BK162) hb; have _ := bs hb; have _ := ra (hbox); have _ := bz (w0 := w) hg; have _ := bz (w0 := w) hg; have _ := bn hg (bk BK162); have _ := bm hg (bk BK162); clear BK162 HB; rename_i BK162 HB BK163 GW163 GE163 NB162_163 NB163_162; clear hb hbox hg; have hnb21 := NB162_163.out; have hnc21 := NB163_162.out; obtain ⟨hcz22_0, hcz22_1, hcz22_2, hcz22_3, hcz22_4, hcz22_5, hfz22_0, hfz22_1, hfz22_2, hfz22_3, hfz22_4, hfz22_5⟩ := zc6 BK162; obtain ⟨hcz23_0, hcz23_1, hcz23_2, hcz23_3, hcz23_4, hcz23_5, hfz23_0, hfz23_1, hfz23_2, hfz23_3, hfz23_4, hfz23_5⟩ := zc6 BK163))
      go_ret
      exact ⟨re, bq⟩
    ·rw [if_neg c6] at H
     have c6b0 : (a0_3 == a1_3) = false := beq_eq_false_iff_ne.mpr c6
     have c6b1 : (a0_3 != a1_3) = true := bne_iff_ne.mpr c6
     obtain rfl := Option.some.inj H
     go_enter Try.func141, Try.ntmps141
     go_wp2_with (first | ((with_reducible refine gate_dst (N := 2) rfl ?_); refine be 2 #[.int .i64 a0_0, .int .i64 a0_1, .int .i64 a0_2, .int .i64 a0_3, .string a0_4, .int .i64 a0_5] 101 ?_; intro gb162 hg w24 hbox hb; have _ := bs hb; have _ := ra (hbox); have _ := bz (w0 := w) hg; have _ := bz (w0 := w) hg; clear HB; rename_i HB BK162 GW162 GE162; clear hb hbox hg) | ((with_reducible refine gate_dst (N := 3) rfl ?_); refine be 3 #[.int .i64 a1_0, .int .i64 a1_1, .int .i64 a1_2, .int .i64 a1_3, .string a1_4, .int .i64 a1_5] 101 ?_; intro gb163 hg w25 hbox hb; have _ := bb (bk BK162) hb; have _ := bs hb; have _ := ra (hbox); have _ := bz (w0 := w) hg; have _ := bz (w0 := w) hg; have _ := bn hg (bk BK162); have _ := bm hg (bk BK162); clear BK162 HB; rename_i BK162 HB BK163 GW163 GE163 NB162_163 NB163_162; clear hb hbox hg; have hnb26 := NB162_163.out; have hnc26 := NB163_162.out; obtain ⟨hcz27_0, hcz27_1, hcz27_2, hcz27_3, hcz27_4, hcz27_5, hfz27_0, hfz27_1, hfz27_2, hfz27_3, hfz27_4, hfz27_5⟩ := zc6 BK162; obtain ⟨hcz28_0, hcz28_1, hcz28_2, hcz28_3, hcz28_4, hcz28_5, hfz28_0, hfz28_1, hfz28_2, hfz28_3, hfz28_4, hfz28_5⟩ := zc6 BK163))
     go_ret
     exact ⟨re, bq⟩
   ·rw [if_neg c5] at H
    have c5b0 : (a0_2 == a1_2) = false := beq_eq_false_iff_ne.mpr c5
    have c5b1 : (a0_2 != a1_2) = true := bne_iff_ne.mpr c5
    obtain rfl := Option.some.inj H
    go_enter Try.func141, Try.ntmps141
    go_wp2_with (first | ((with_reducible refine gate_dst (N := 2) rfl ?_); refine be 2 #[.int .i64 a0_0, .int .i64 a0_1, .int .i64 a0_2, .int .i64 a0_3, .string a0_4, .int .i64 a0_5] 101 ?_; intro gb162 hg w29 hbox hb; have _ := bs hb; have _ := ra (hbox); have _ := bz (w0 := w) hg; have _ := bz (w0 := w) hg; clear HB; rename_i HB BK162 GW162 GE162; clear hb hbox hg) | ((with_reducible refine gate_dst (N := 3) rfl ?_); refine be 3 #[.int .i64 a1_0, .int .i64 a1_1, .int .i64 a1_2, .int .i64 a1_3, .string a1_4, .int .i64 a1_5] 101 ?_; intro gb163 hg w30 hbox hb; have _ := bb (bk BK162) hb; have _ := bs hb; have _ := ra (hbox); have _ := bz (w0 := w) hg; have _ := bz (w0 := w) hg; have _ := bn hg (bk BK162); have _ := bm hg (bk BK162); clear BK162 HB; rename_i BK162 HB BK163 GW163 GE163 NB162_163 NB163_162; clear hb hbox hg; have hnb31 := NB162_163.out; have hnc31 := NB163_162.out; obtain ⟨hcz32_0, hcz32_1, hcz32_2, hcz32_3, hcz32_4, hcz32_5, hfz32_0, hfz32_1, hfz32_2, hfz32_3, hfz32_4, hfz32_5⟩ := zc6 BK162; obtain ⟨hcz33_0, hcz33_1, hcz33_2, hcz33_3, hcz33_4, hcz33_5, hfz33_0, hfz33_1, hfz33_2, hfz33_3, hfz33_4, hfz33_5⟩ := zc6 BK163))
    go_ret
    exact ⟨re, bq⟩
  ·rw [if_neg c4] at H
   have c4b0 : (a0_1 == a1_1) = false := beq_eq_false_iff_ne.mpr c4
   have c4b1 : (a0_1 != a1_1) = true := bne_iff_ne.mpr c4
   obtain rfl := Option.some.inj H
   go_enter Try.func141, Try.ntmps141
   go_wp2_with (first | ((with_reducible refine gate_dst (N := 2) rfl ?_); refine be 2 #[.int .i64 a0_0, .int .i64 a0_1, .int .i64 a0_2, .int .i64 a0_3, .string a0_4, .int .i64 a0_5] 101 ?_; intro gb162 hg w34 hbox hb; have _ := bs hb; have _ := ra (hbox); have _ := bz (w0 := w) hg; have _ := bz (w0 := w) hg; clear HB; rename_i HB BK162 GW162 GE162; clear hb hbox hg) | ((with_reducible refine gate_dst (N := 3) rfl ?_); refine be 3 #[.int .i64 a1_0, .int .i64 a1_1, .int .i64 a1_2, .int .i64 a1_3, .string a1_4, .int .i64 a1_5] 101 ?_; intro gb163 hg w35 hbox hb; have _ := bb (bk BK162) hb; have _ := bs hb; have _ := ra (hbox); have _ := bz (w0 := w) hg; have _ := bz (w0 := w) hg; have _ := bn hg (bk BK162); have _ := bm hg (bk BK162); clear BK162 HB; rename_i BK162 HB BK163 GW163 GE163 NB162_163 NB163_162; clear hb hbox hg; have hnb36 := NB162_163.out; have hnc36 := NB163_162.out; obtain ⟨hcz37_0, hcz37_1, hcz37_2, hcz37_3, hcz37_4, hcz37_5, hfz37_0, hfz37_1, hfz37_2, hfz37_3, hfz37_4, hfz37_5⟩ := zc6 BK162; obtain ⟨hcz38_0, hcz38_1, hcz38_2, hcz38_3, hcz38_4, hcz38_5, hfz38_0, hfz38_1, hfz38_2, hfz38_3, hfz38_4, hfz38_5⟩ := zc6 BK163))
   go_ret
   exact ⟨re, bq⟩
 ·rw [if_neg c3] at H
  have c3b0 : (a0_0 == a1_0) = false := beq_eq_false_iff_ne.mpr c3
  have c3b1 : (a0_0 != a1_0) = true := bne_iff_ne.mpr c3
  obtain rfl := Option.some.inj H
  go_enter Try.func141, Try.ntmps141
  go_wp2_with (first | ((with_reducible refine gate_dst (N := 2) rfl ?_); refine be 2 #[.int .i64 a0_0, .int .i64 a0_1, .int .i64 a0_2, .int .i64 a0_3, .string a0_4, .int .i64 a0_5] 101 ?_; intro gb162 hg w39 hbox hb; have _ := bs hb; have _ := ra (hbox); have _ := bz (w0 := w) hg; have _ := bz (w0 := w) hg; clear HB; rename_i HB BK162 GW162 GE162; clear hb hbox hg) | ((with_reducible refine gate_dst (N := 3) rfl ?_); refine be 3 #[.int .i64 a1_0, .int .i64 a1_1, .int .i64 a1_2, .int .i64 a1_3, .string a1_4, .int .i64 a1_5] 101 ?_; intro gb163 hg w40 hbox hb; have _ := bb (bk BK162) hb; have _ := bs hb; have _ := ra (hbox); have _ := bz (w0 := w) hg; have _ := bz (w0 := w) hg; have _ := bn hg (bk BK162); have _ := bm hg (bk BK162); clear BK162 HB; rename_i BK162 HB BK163 GW163 GE163 NB162_163 NB163_162; clear hb hbox hg; have hnb41 := NB162_163.out; have hnc41 := NB163_162.out; obtain ⟨hcz42_0, hcz42_1, hcz42_2, hcz42_3, hcz42_4, hcz42_5, hfz42_0, hfz42_1, hfz42_2, hfz42_3, hfz42_4, hfz42_5⟩ := zc6 BK162; obtain ⟨hcz43_0, hcz43_1, hcz43_2, hcz43_3, hcz43_4, hcz43_5, hfz43_0, hfz43_1, hfz43_2, hfz43_3, hfz43_4, hfz43_5⟩ := zc6 BK163))
  go_ret
  exact ⟨re, bq⟩
def laws_eqProbeSlotS.T6 : Bool × List (List Nat × List Nat) := (true, [([], []), ([], []), ([0, 1], [0, 1]), ([2], [2]), ([], []), ([], []), ([4, 5], [4, 5]), ([6], [6]), ([3, 7], [3, 7]), ([8], [8])])
def laws_eqProbeSlotS.B6 : List Nat := [0, 0, 3, 7, 0, 0, 48, 112, 255, 511]
theorem laws_eqProbeSlotS.tab6 : rtab .any (opsOf Try.f132 6) = laws_eqProbeSlotS.T6 := by kernel_rfl
theorem laws_eqProbeSlotS.bits6 : waitsOk laws_eqProbeSlotS.T6.2 laws_eqProbeSlotS.B6 = true := by kernel_rfl
set_option maxHeartbeats 8000000 in
set_option maxRecDepth 100000 in
theorem laws_eqProbeSlotS.calls (k : Nat) (A0 : Option Addr) (c0 : Nat) (l0 : List (S101)) (A1 : Option Addr) (c1 : Nat) (l1 : List (S101)) (r : Bool) (w : World) (hr0 : Kd.C k101 w A0 l0.length l0) (hc0 : l0.length ≤ c0) (hr1 : Kd.C k101 w A1 l1.length l1) (hc1 : l1.length ≤ c1) (h : laws_eqProbeSlotS.f k l0 l1 = some r) :
  Calls Try.prog 132 #[.slice A0 l0.length c0, .slice A1 l1.length c1] w fun e w' => e = .returned (.bool r) ∧ Below w.heap.size w w' := by
 have hu101 := Try.underlying101
 have HR0 := Aside0.mk hr0
 have HC0 := Aside0.mk hc0
 clear hr0 hc0
 have HR1 := Aside0.mk hr1
 have HC1 := Aside0.mk hc1
 clear hr1 hc1
 have HB := ra (Below.refl w.heap.size w)
 have H : (if (l0.length : Int) = (l1.length : Int) then (laws_eqProbeSlotS.l0 k l0 l1 0) else (some false)) = some r := h
 clear h
 by_cases c3 : (l0.length : Int) = (l1.length : Int)
 ·rw [if_pos c3] at H
  have c3b0 : ((l0.length : Int) == (l1.length : Int)) = true := beq_iff_eq.mpr c3
  have c3b1 : ((l0.length : Int) != (l1.length : Int)) = false := bne_eq_false_iff_eq.mpr c3
  have c3b2 : (l0.length == l1.length) = true := by first | simpa using c3 | (simp at c3 ⊢; omega)
  clear c3
  have H' := Aside0.mk H
  clear H
  go_enter Try.func132, Try.ntmps132
  go_wp2
  go_loopg [5] k (fun kq v5 w' => ∃ (x5_1 : Int), v5 = .int .i64 x5_1 ∧ Aside0 (laws_eqProbeSlotS.l0 kq l0 l1 x5_1 = some r) ∧ Aside0 (kq ≤ k) ∧ Aside0 (Below w.heap.size w w'))
  case atStart => exact ⟨(0), rs, H', ⟨Nat.le_refl _⟩, ⟨bq⟩⟩
  case round =>
   clear H'
   try clear c1
   try clear c3
   try clear c3b0
   try clear c3b1
   try clear c3b2
   obtain ⟨x5_1, rfl, HA, HK1, HB⟩ := hrel
   cases gk with
   | zero => exact absurd HA.out (by simp [laws_eqProbeSlotS.l0])
   | succ k1 =>
    have H := HA.out
    clear HA
    simp only [laws_eqProbeSlotS.l0] at H
    by_cases c4 : x5_1 < (l0.length : Int)
    ·rw [if_pos c4] at H
     have c4b0 : decide (x5_1 < (l0.length : Int)) = true := decide_eq_true c4
     clear c4
     by_cases c5 : 0 ≤ x5_1
     ·rw [if_pos c5] at H
      have c5b0 : decide (0 ≤ x5_1) = true := decide_eq_true c5
      clear c5
      by_cases c6 : x5_1 < (l1.length : Int)
      ·rw [if_pos c6] at H
       have c6b0 : decide (x5_1 < (l1.length : Int)) = true := decide_eq_true c6
       clear c6
       obtain ⟨t166, A7, H⟩ := bo H
       by_cases c8 : t166 = true
       ·subst c8
        replace H := it H rfl
        have H' := Aside0.mk H
        clear H
        try go_wp2
        have _ := ra (below_drew1 HB.out)
        clear HB
        rename_i HB
        have p164 : 0 ≤ (x5_1 : Int) := od
        have q164 : x5_1 < (l0.length : Int) := od
        obtain ⟨ad164, e164, hx164_0, hx164_1, hx164_2, hx164_3, hx164_4, hx164_5⟩ := at_T101 HR0.out x5_1 p164 q164
        have hw164_5 := hx164_5
        have hw164_4 := hx164_4
        have hw164_3 := hx164_3
        have hw164_2 := hx164_2
        have hw164_1 := hx164_1
        have hw164_0 := hx164_0
        cases e164
        replace hx164_0 := hc HB hx164_0
        replace hx164_1 := hc HB hx164_1
        replace hx164_2 := hc HB hx164_2
        replace hx164_3 := hc HB hx164_3
        replace hx164_4 := hc HB hx164_4
        replace hx164_5 := hc HB hx164_5
        replace p164 := eq_true p164
        replace q164 := eq_true q164
        have p165 : 0 ≤ (x5_1 : Int) := od
        have q165 : x5_1 < (l1.length : Int) := od
        obtain ⟨ad165, e165, hx165_0, hx165_1, hx165_2, hx165_3, hx165_4, hx165_5⟩ := at_T101 HR1.out x5_1 p165 q165
        have hw165_5 := hx165_5
        have hw165_4 := hx165_4
        have hw165_3 := hx165_3
        have hw165_2 := hx165_2
        have hw165_1 := hx165_1
        have hw165_0 := hx165_0
        cases e165
        replace hx165_0 := hc HB hx165_0
        replace hx165_1 := hc HB hx165_1
        replace hx165_2 := hc HB hx165_2
        replace hx165_3 := hc HB hx165_3
        replace hx165_4 := hc HB hx165_4
        replace hx165_5 := hc HB hx165_5
        replace p165 := eq_true p165
        replace q165 := eq_true q165
        refine start_ (n := 10) (S := fun w' => w'.cell? (ad164.add ((x5_1).toNat * 6)) = some (.int .i64 ((rd_T101 l0 x5_1).f0)) ∧ w'.cell? ⟨(ad164.add ((x5_1).toNat * 6)).block, (ad164.add ((x5_1).toNat * 6)).off + 1, none⟩ = some (.int .i64 ((rd_T101 l0 x5_1).f1)) ∧ w'.cell? ⟨(ad164.add ((x5_1).toNat * 6)).block, (ad164.add ((x5_1).toNat * 6)).off + 2, none⟩ = some (.int .i64 ((rd_T101 l0 x5_1).f2)) ∧ w'.cell? ⟨(ad164.add ((x5_1).toNat * 6)).block, (ad164.add ((x5_1).toNat * 6)).off + 3, none⟩ = some (.int .i64 ((rd_T101 l0 x5_1).f3)) ∧ w'.cell? ⟨(ad164.add ((x5_1).toNat * 6)).block, (ad164.add ((x5_1).toNat * 6)).off + 4, none⟩ = some (.string ((rd_T101 l0 x5_1).f4)) ∧ w'.cell? ⟨(ad164.add ((x5_1).toNat * 6)).block, (ad164.add ((x5_1).toNat * 6)).off + 5, none⟩ = some (.int .i64 ((rd_T101 l0 x5_1).f5)) ∧ w'.cell? (ad165.add ((x5_1).toNat * 6)) = some (.int .i64 ((rd_T101 l1 x5_1).f0)) ∧ w'.cell? ⟨(ad165.add ((x5_1).toNat * 6)).block, (ad165.add ((x5_1).toNat * 6)).off + 1, none⟩ = some (.int .i64 ((rd_T101 l1 x5_1).f1)) ∧ w'.cell? ⟨(ad165.add ((x5_1).toNat * 6)).block, (ad165.add ((x5_1).toNat * 6)).off + 2, none⟩ = some (.int .i64 ((rd_T101 l1 x5_1).f2)) ∧ w'.cell? ⟨(ad165.add ((x5_1).toNat * 6)).block, (ad165.add ((x5_1).toNat * 6)).off + 3, none⟩ = some (.int .i64 ((rd_T101 l1 x5_1).f3)) ∧ w'.cell? ⟨(ad165.add ((x5_1).toNat * 6)).block, (ad165.add ((x5_1).toNat * 6)).off + 4, none⟩ = some (.string ((rd_T101 l1 x5_1).f4)) ∧ w'.cell? ⟨(ad165.add ((x5_1).toNat * 6)).block, (ad165.add ((x5_1).toNat * 6)).off + 5, none⟩ = some (.int .i64 ((rd_T101 l1 x5_1).f5))) (ds := []) (bl 10 0) (by kernel_rfl) rfl rfl ⟨(hc HB hw164_0), (hc HB hw164_1), (hc HB hw164_2), (hc HB hw164_3), (hc HB hw164_4), (hc HB hw164_5), (hc HB hw165_0), (hc HB hw165_1), (hc HB hw165_2), (hc HB hw165_3), (hc HB hw165_4), (hc HB hw165_5)⟩ (fun hHeld => ?_); refine with_tabW laws_eqProbeSlotS.tab6 laws_eqProbeSlotS.bits6 (fun HT_ HW_ => ?_)
        generalize wr.drew = w9 at HB hx164_0 hx164_1 hx164_2 hx164_3 hx164_4 hx164_5 hx165_0 hx165_1 hx165_2 hx165_3 hx165_4 hx165_5 hHeld ⊢
        refine pu 0 17 (bl 10 1) ?_
        refine pu 1 18 (bl 10 3) ?_
        refine pu 2 19 (bl 10 7) ?_
        refine pu 4 21 (bl 10 23) ?_
        refine pu 5 22 (bl 10 55) ?_
        refine pu 6 23 (bl 10 119) ?_
        refine tk 3 20 (bl 10 127) ?_ hHeld
        refine tk 7 24 (bl 10 255) ?_ hHeld
        refine oe 8 25 (bl 10 511) (fun K hK => ?_)
        refine gs Try.func141 #[.agg #[.int .i64 ((rd_T101 l0 x5_1).f0), .int .i64 ((rd_T101 l0 x5_1).f1), .int .i64 ((rd_T101 l0 x5_1).f2), .int .i64 ((rd_T101 l0 x5_1).f3), .string ((rd_T101 l0 x5_1).f4), .int .i64 ((rd_T101 l0 x5_1).f5)], .agg #[.int .i64 ((rd_T101 l1 x5_1).f0), .int .i64 ((rd_T101 l1 x5_1).f1), .int .i64 ((rd_T101 l1 x5_1).f2), .int .i64 ((rd_T101 l1 x5_1).f3), .string ((rd_T101 l1 x5_1).f4), .int .i64 ((rd_T101 l1 x5_1).f5)]] ?_
        with_reducible refine (laws_eqProbeSlot.calls ((rd_T101 l0 x5_1).f0) ((rd_T101 l0 x5_1).f1) ((rd_T101 l0 x5_1).f2) ((rd_T101 l0 x5_1).f3) ((rd_T101 l0 x5_1).f4) ((rd_T101 l0 x5_1).f5) ((rd_T101 l1 x5_1).f0) ((rd_T101 l1 x5_1).f1) ((rd_T101 l1 x5_1).f2) ((rd_T101 l1 x5_1).f3) ((rd_T101 l1 x5_1).f4) ((rd_T101 l1 x5_1).f5) true _ A7.out).mono ?_
        rintro e w10 ⟨rfl, hb⟩
        refine ⟨_, rfl, ?_⟩
        have _ := bs hb
        clear HB
        rename_i HB
        (try clear hb)
        (try clear hb2)
        (try clear hk)
        (try clear hi)
        refine hK.out _ _ ⟨(hc HB hw164_0), (hc HB hw164_1), (hc HB hw164_2), (hc HB hw164_3), (hc HB hw164_4), (hc HB hw164_5), (hc HB hw165_0), (hc HB hw165_1), (hc HB hw165_2), (hc HB hw165_3), (hc HB hw165_4), (hc HB hw165_5)⟩ (fun hHeld => ?_)
        clear hK K
        refine nm 25 ?_
        refine pu 9 26 (bl 10 1023) ?_
        refine done_ (done_of HT_.out (by kernel_rfl)) ?_
        try go_wp2
        go_roundg k1
        case measure => have := HK1.out; omega
        case rel => exact ⟨(wrap64 (x5_1 + 1)), rs, H', ⟨by have := HK1.out; omega⟩, ⟨bq⟩⟩
       ·replace c8 := Bool.eq_false_iff.mpr c8
        subst c8
        have H1 : (some false) = some r := by rw [if_neg (show ¬ (false = true) by decide)] at H; exact H
        clear H
        have H := H1
        clear H1
        obtain rfl := Option.some.inj H
        try go_wp2
        have _ := ra (below_drew1 HB.out)
        clear HB
        rename_i HB
        have p164 : 0 ≤ (x5_1 : Int) := od
        have q164 : x5_1 < (l0.length : Int) := od
        obtain ⟨ad164, e164, hx164_0, hx164_1, hx164_2, hx164_3, hx164_4, hx164_5⟩ := at_T101 HR0.out x5_1 p164 q164
        have hw164_5 := hx164_5
        have hw164_4 := hx164_4
        have hw164_3 := hx164_3
        have hw164_2 := hx164_2
        have hw164_1 := hx164_1
        have hw164_0 := hx164_0
        cases e164
        replace hx164_0 := hc HB hx164_0
        replace hx164_1 := hc HB hx164_1
        replace hx164_2 := hc HB hx164_2
        replace hx164_3 := hc HB hx164_3
        replace hx164_4 := hc HB hx164_4
        replace hx164_5 := hc HB hx164_5
        replace p164 := eq_true p164
        replace q164 := eq_true q164
        have p165 : 0 ≤ (x5_1 : Int) := od
        have q165 : x5_1 < (l1.length : Int) := od
        obtain ⟨ad165, e165, hx165_0, hx165_1, hx165_2, hx165_3, hx165_4, hx165_5⟩ := at_T101 HR1.out x5_1 p165 q165
        have hw165_5 := hx165_5
        have hw165_4 := hx165_4
        have hw165_3 := hx165_3
        have hw165_2 := hx165_2
        have hw165_1 := hx165_1
        have hw165_0 := hx165_0
        cases e165
        replace hx165_0 := hc HB hx165_0
        replace hx165_1 := hc HB hx165_1
        replace hx165_2 := hc HB hx165_2
        replace hx165_3 := hc HB hx165_3
        replace hx165_4 := hc HB hx165_4
        replace hx165_5 := hc HB hx165_5
        replace p165 := eq_true p165
        replace q165 := eq_true q165
        refine start_ (n := 10) (S := fun w' => w'.cell? (ad164.add ((x5_1).toNat * 6)) = some (.int .i64 ((rd_T101 l0 x5_1).f0)) ∧ w'.cell? ⟨(ad164.add ((x5_1).toNat * 6)).block, (ad164.add ((x5_1).toNat * 6)).off + 1, none⟩ = some (.int .i64 ((rd_T101 l0 x5_1).f1)) ∧ w'.cell? ⟨(ad164.add ((x5_1).toNat * 6)).block, (ad164.add ((x5_1).toNat * 6)).off + 2, none⟩ = some (.int .i64 ((rd_T101 l0 x5_1).f2)) ∧ w'.cell? ⟨(ad164.add ((x5_1).toNat * 6)).block, (ad164.add ((x5_1).toNat * 6)).off + 3, none⟩ = some (.int .i64 ((rd_T101 l0 x5_1).f3)) ∧ w'.cell? ⟨(ad164.add ((x5_1).toNat * 6)).block, (ad164.add ((x5_1).toNat * 6)).off + 4, none⟩ = some (.string ((rd_T101 l0 x5_1).f4)) ∧ w'.cell? ⟨(ad164.add ((x5_1).toNat * 6)).block, (ad164.add ((x5_1).toNat * 6)).off + 5, none⟩ = some (.int .i64 ((rd_T101 l0 x5_1).f5)) ∧ w'.cell? (ad165.add ((x5_1).toNat * 6)) = some (.int .i64 ((rd_T101 l1 x5_1).f0)) ∧ w'.cell? ⟨(ad165.add ((x5_1).toNat * 6)).block, (ad165.add ((x5_1).toNat * 6)).off + 1, none⟩ = some (.int .i64 ((rd_T101 l1 x5_1).f1)) ∧ w'.cell? ⟨(ad165.add ((x5_1).toNat * 6)).block, (ad165.add ((x5_1).toNat * 6)).off + 2, none⟩ = some (.int .i64 ((rd_T101 l1 x5_1).f2)) ∧ w'.cell? ⟨(ad165.add ((x5_1).toNat * 6)).block, (ad165.add ((x5_1).toNat * 6)).off + 3, none⟩ = some (.int .i64 ((rd_T101 l1 x5_1).f3)) ∧ w'.cell? ⟨(ad165.add ((x5_1).toNat * 6)).block, (ad165.add ((x5_1).toNat * 6)).off + 4, none⟩ = some (.string ((rd_T101 l1 x5_1).f4)) ∧ w'.cell? ⟨(ad165.add ((x5_1).toNat * 6)).block, (ad165.add ((x5_1).toNat * 6)).off + 5, none⟩ = some (.int .i64 ((rd_T101 l1 x5_1).f5))) (ds := []) (bl 10 0) (by kernel_rfl) rfl rfl ⟨(hc HB hw164_0), (hc HB hw164_1), (hc HB hw164_2), (hc HB hw164_3), (hc HB hw164_4), (hc HB hw164_5), (hc HB hw165_0), (hc HB hw165_1), (hc HB hw165_2), (hc HB hw165_3), (hc HB hw165_4), (hc HB hw165_5)⟩ (fun hHeld => ?_); refine with_tabW laws_eqProbeSlotS.tab6 laws_eqProbeSlotS.bits6 (fun HT_ HW_ => ?_)
        generalize wr.drew = w11 at HB hx164_0 hx164_1 hx164_2 hx164_3 hx164_4 hx164_5 hx165_0 hx165_1 hx165_2 hx165_3 hx165_4 hx165_5 hHeld ⊢
        refine pu 0 17 (bl 10 1) ?_
        refine pu 1 18 (bl 10 3) ?_
        refine pu 2 19 (bl 10 7) ?_
        refine pu 4 21 (bl 10 23) ?_
        refine pu 5 22 (bl 10 55) ?_
        refine pu 6 23 (bl 10 119) ?_
        refine tk 3 20 (bl 10 127) ?_ hHeld
        refine tk 7 24 (bl 10 255) ?_ hHeld
        refine oe 8 25 (bl 10 511) (fun K hK => ?_)
        refine gs Try.func141 #[.agg #[.int .i64 ((rd_T101 l0 x5_1).f0), .int .i64 ((rd_T101 l0 x5_1).f1), .int .i64 ((rd_T101 l0 x5_1).f2), .int .i64 ((rd_T101 l0 x5_1).f3), .string ((rd_T101 l0 x5_1).f4), .int .i64 ((rd_T101 l0 x5_1).f5)], .agg #[.int .i64 ((rd_T101 l1 x5_1).f0), .int .i64 ((rd_T101 l1 x5_1).f1), .int .i64 ((rd_T101 l1 x5_1).f2), .int .i64 ((rd_T101 l1 x5_1).f3), .string ((rd_T101 l1 x5_1).f4), .int .i64 ((rd_T101 l1 x5_1).f5)]] ?_
        with_reducible refine (laws_eqProbeSlot.calls ((rd_T101 l0 x5_1).f0) ((rd_T101 l0 x5_1).f1) ((rd_T101 l0 x5_1).f2) ((rd_T101 l0 x5_1).f3) ((rd_T101 l0 x5_1).f4) ((rd_T101 l0 x5_1).f5) ((rd_T101 l1 x5_1).f0) ((rd_T101 l1 x5_1).f1) ((rd_T101 l1 x5_1).f2) ((rd_T101 l1 x5_1).f3) ((rd_T101 l1 x5_1).f4) ((rd_T101 l1 x5_1).f5) false _ A7.out).mono ?_
        rintro e w12 ⟨rfl, hb⟩
        refine ⟨_, rfl, ?_⟩
        have _ := bs hb
        clear HB
        rename_i HB
        (try clear hb)
        (try clear hb2)
        (try clear hk)
        (try clear hi)
        refine hK.out _ _ ⟨(hc HB hw164_0), (hc HB hw164_1), (hc HB hw164_2), (hc HB hw164_3), (hc HB hw164_4), (hc HB hw164_5), (hc HB hw165_0), (hc HB hw165_1), (hc HB hw165_2), (hc HB hw165_3), (hc HB hw165_4), (hc HB hw165_5)⟩ (fun hHeld => ?_)
        clear hK K
        refine nm 25 ?_
        refine pu 9 26 (bl 10 1023) ?_
        refine done_ (done_of HT_.out (by kernel_rfl)) ?_
        try go_wp2
        go_ret
        exact ⟨re, bq⟩
      ·rw [if_neg c6] at H
       exact absurd H (by simp)
     ·rw [if_neg c5] at H
      exact absurd H (by simp)
    ·rw [if_neg c4] at H
     have c4b0 : decide (x5_1 < (l0.length : Int)) = false := decide_eq_false c4
     clear c4
     obtain rfl := Option.some.inj H
     go_wp2
     go_ret
     exact ⟨re, bq⟩
 ·rw [if_neg c3] at H
  have c3b0 : ((l0.length : Int) == (l1.length : Int)) = false := beq_eq_false_iff_ne.mpr c3
  have c3b1 : ((l0.length : Int) != (l1.length : Int)) = true := bne_iff_ne.mpr c3
  have c3b2 : (l0.length == l1.length) = false := by first | simpa using c3 | (simp at c3 ⊢; omega)
  obtain rfl := Option.some.inj H
  go_enter Try.func132, Try.ntmps132
  go_wp2
  go_ret
  exact ⟨re, bq⟩
set_option maxHeartbeats 8000000 in
set_option maxRecDepth 100000 in
theorem laws_eqProbeCell.calls (k : Nat) (a0_0 : Int) (a0_1 : Int) (A0_2 : Option Addr) (c0_2 : Nat) (l0_2 : List (S101)) (a1_0 : Int) (a1_1 : Int) (A1_2 : Option Addr) (c1_2 : Nat) (l1_2 : List (S101)) (r : Bool) (w : World) (hr0_2 : Kd.C k101 w A0_2 l0_2.length l0_2) (hc0_2 : l0_2.length ≤ c0_2) (hr1_2 : Kd.C k101 w A1_2 l1_2.length l1_2) (hc1_2 : l1_2.length ≤ c1_2) (h : laws_eqProbeCell.f k a0_0 a0_1 l0_2 a1_0 a1_1 l1_2 = some r) :
  Calls Try.prog 96 #[.agg #[.int .i64 a0_0, .int .i64 a0_1, .slice A0_2 l0_2.length c0_2], .agg #[.int .i64 a1_0, .int .i64 a1_1, .slice A1_2 l1_2.length c1_2]] w fun e w' => e = .returned (.bool r) ∧ Below w.heap.size w w' := by
 have hu105 := Try.underlying105
 have HR0_2 := Aside0.mk hr0_2
 have HC0_2 := Aside0.mk hc0_2
 clear hr0_2 hc0_2
 have HR1_2 := Aside0.mk hr1_2
 have HC1_2 := Aside0.mk hc1_2
 clear hr1_2 hc1_2
 have HB := ra (Below.refl w.heap.size w)
 have H : (if a0_0 = a1_0 then (if a0_1 = a1_1 then ((laws_eqProbeSlotS.f k l0_2 l1_2).bind fun t169 => (if t169 = true then (some true) else (some false))) else (some false)) else (some false)) = some r := h
 clear h
 by_cases c3 : a0_0 = a1_0
 ·rw [if_pos c3] at H
  have c3b0 : (a0_0 == a1_0) = true := beq_iff_eq.mpr c3
  have c3b1 : (a0_0 != a1_0) = false := bne_eq_false_iff_eq.mpr c3
  clear c3
  by_cases c4 : a0_1 = a1_1
  ·rw [if_pos c4] at H
   have c4b0 : (a0_1 == a1_1) = true := beq_iff_eq.mpr c4
   have c4b1 : (a0_1 != a1_1) = false := bne_eq_false_iff_eq.mpr c4
   clear c4
   obtain ⟨t169, A5, H⟩ := bo H
   by_cases c6 : t169 = true
   ·subst c6
    replace H := it H rfl
    obtain rfl := Option.some.inj H
    go_enter Try.func96, Try.ntmps96
    go_wp2_with (first | ((with_reducible refine gate_dst (N := 2) rfl ?_); refine be 2 #[.int .i64 a0_0, .int .i64 a0_1, .slice A0_2 l0_2.length c0_2] 105 ?_; intro gb167 hg w7 hbox hb; have _ := bs hb; have _ := ra (hbox); have _ := bz (w0 := w) hg; have _ := bz (w0 := w) hg; clear HB; rename_i HB BK167 GW167 GE167; clear hb hbox hg) | ((with_reducible refine gate_dst (N := 3) rfl ?_); refine be 3 #[.int .i64 a1_0, .int .i64 a1_1, .slice A1_2 l1_2.length c1_2] 105 ?_; intro gb168 hg w8 hbox hb; have _ := bb (bk BK167) hb; have _ := bs hb; have _ := ra (hbox); have _ := bz (w0 := w) hg; have _ := bz (w0 := w) hg; have _ := bn hg (bk BK167); have _ := bm hg (bk BK167); clear BK167 HB; rename_i BK167 HB BK168 GW168 GE168 NB167_168 NB168_167; clear hb hbox hg; have hnb9 := NB167_168.out; have hnc9 := NB168_167.out; have hcz10_0 : w8.cell? ⟨gb167, 0, none⟩ = some (.int .i64 a0_0) := (blk_cell BK167.out 0).trans rfl; have hcz10_1 : w8.cell? ⟨gb167, 1, none⟩ = some (.int .i64 a0_1) := (blk_cell BK167.out 1).trans rfl; have hcz10_2 : w8.cell? ⟨gb167, 2, none⟩ = some (.slice A0_2 l0_2.length c0_2) := (blk_cell BK167.out 2).trans rfl; have hfz10_0 := blk_frozen BK167.out 0; have hfz10_1 := blk_frozen BK167.out 1; have hfz10_2 := blk_frozen BK167.out 2; have hcz11_0 : w8.cell? ⟨gb168, 0, none⟩ = some (.int .i64 a1_0) := (blk_cell BK168.out 0).trans rfl; have hcz11_1 : w8.cell? ⟨gb168, 1, none⟩ = some (.int .i64 a1_1) := (blk_cell BK168.out 1).trans rfl; have hcz11_2 : w8.cell? ⟨gb168, 2, none⟩ = some (.slice A1_2 l1_2.length c1_2) := (blk_cell BK168.out 2).trans rfl; have hfz11_0 := blk_frozen BK168.out 0; have hfz11_1 := blk_frozen BK168.out 1; have hfz11_2 := blk_frozen BK168.out 2) | ((with_reducible refine gate_callee (f := 132) rfl ?_); refine gl (some 19) Try.func132 #[.slice A0_2 l0_2.length c0_2, .slice A1_2 l1_2.length c1_2] ?_; (with_reducible refine (laws_eqProbeSlotS.calls k _ _ l0_2 _ _ l1_2 true _ ?side1 ?side2 ?side3 ?side4 A5.out).mono ?_); (case side1 => exact sc HR0_2); (case side2 => exact HC0_2.out); (case side3 => exact sc HR1_2); (case side4 => exact HC1_2.out); rintro e w12 ⟨rfl, hb⟩; refine ⟨_, rfl, ?_⟩; have _ := bb (bk BK167) hb; have _ := bb (bk BK168) hb; have _ := bs hb; clear BK167 BK168 HB; rename_i BK167 BK168 HB; (try clear hb); (try clear hb2); (try clear hk); (try clear hi)))
    go_ret
    exact ⟨re, bq⟩
   ·replace c6 := Bool.eq_false_iff.mpr c6
    subst c6
    have H1 : (some false) = some r := by rw [if_neg (show ¬ (false = true) by decide)] at H; exact H
    clear H
    have H := H1
    clear H1
    obtain rfl := Option.some.inj H
    go_enter Try.func96, Try.ntmps96
    go_wp2_with (first | ((with_reducible refine gate_dst (N := 2) rfl ?_); refine be 2 #[.int .i64 a0_0, .int .i64 a0_1, .slice A0_2 l0_2.length c0_2] 105 ?_; intro gb167 hg w13 hbox hb; have _ := bs hb; have _ := ra (hbox); have _ := bz (w0 := w) hg; have _ := bz (w0 := w) hg; clear HB; rename_i HB BK167 GW167 GE167; clear hb hbox hg) | ((with_reducible refine gate_dst (N := 3) rfl ?_); refine be 3 #[.int .i64 a1_0, .int .i64 a1_1, .slice A1_2 l1_2.length c1_2] 105 ?_; intro gb168 hg w14 hbox hb; have _ := bb (bk BK167) hb; have _ := bs hb; have _ := ra (hbox); have _ := bz (w0 := w) hg; have _ := bz (w0 := w) hg; have _ := bn hg (bk BK167); have _ := bm hg (bk BK167); clear BK167 HB; rename_i BK167 HB BK168 GW168 GE168 NB167_168 NB168_167; clear hb hbox hg; have hnb15 := NB167_168.out; have hnc15 := NB168_167.out; have hcz16_0 : w14.cell? ⟨gb167, 0, none⟩ = some (.int .i64 a0_0) := (blk_cell BK167.out 0).trans rfl; have hcz16_1 : w14.cell? ⟨gb167, 1, none⟩ = some (.int .i64 a0_1) := (blk_cell BK167.out 1).trans rfl; have hcz16_2 : w14.cell? ⟨gb167, 2, none⟩ = some (.slice A0_2 l0_2.length c0_2) := (blk_cell BK167.out 2).trans rfl; have hfz16_0 := blk_frozen BK167.out 0; have hfz16_1 := blk_frozen BK167.out 1; have hfz16_2 := blk_frozen BK167.out 2; have hcz17_0 : w14.cell? ⟨gb168, 0, none⟩ = some (.int .i64 a1_0) := (blk_cell BK168.out 0).trans rfl; have hcz17_1 : w14.cell? ⟨gb168, 1, none⟩ = some (.int .i64 a1_1) := (blk_cell BK168.out 1).trans rfl; have hcz17_2 : w14.cell? ⟨gb168, 2, none⟩ = some (.slice A1_2 l1_2.length c1_2) := (blk_cell BK168.out 2).trans rfl; have hfz17_0 := blk_frozen BK168.out 0; have hfz17_1 := blk_frozen BK168.out 1; have hfz17_2 := blk_frozen BK168.out 2) | ((with_reducible refine gate_callee (f := 132) rfl ?_); refine gl (some 19) Try.func132 #[.slice A0_2 l0_2.length c0_2, .slice A1_2 l1_2.length c1_2] ?_; (with_reducible refine (laws_eqProbeSlotS.calls k _ _ l0_2 _ _ l1_2 false _ ?side1 ?side2 ?side3 ?side4 A5.out).mono ?_); (case side1 => exact sc HR0_2); (case side2 => exact HC0_2.out); (case side3 => exact sc HR1_2); (case side4 => exact HC1_2.out); rintro e w18 ⟨rfl, hb⟩; refine ⟨_, rfl, ?_⟩; have _ := bb (bk BK167) hb; have _ := bb (bk BK168) hb; have _ := bs hb; clear BK167 BK168 HB; rename_i BK167 BK168 HB; (try clear hb); (try clear hb2); (try clear hk); (try clear hi)))
    go_ret
    exact ⟨re, bq⟩
  ·rw [if_neg c4] at H
   have c4b0 : (a0_1 == a1_1) = false := beq_eq_false_iff_ne.mpr c4
   have c4b1 : (a0_1 != a1_1) = true := bne_iff_ne.mpr c4
   obtain rfl := Option.some.inj H
   go_enter Try.func96, Try.ntmps96
   go_wp2_with (first | ((with_reducible refine gate_dst (N := 2) rfl ?_); refine be 2 #[.int .i64 a0_0, .int .i64 a0_1, .slice A0_2 l0_2.length c0_2] 105 ?_; intro gb167 hg w19 hbox hb; have _ := bs hb; have _ := ra (hbox); have _ := bz (w0 := w) hg; have _ := bz (w0 := w) hg; clear HB; rename_i HB BK167 GW167 GE167; clear hb hbox hg) | ((with_reducible refine gate_dst (N := 3) rfl ?_); refine be 3 #[.int .i64 a1_0, .int .i64 a1_1, .slice A1_2 l1_2.length c1_2] 105 ?_; intro gb168 hg w20 hbox hb; have _ := bb (bk BK167) hb; have _ := bs hb; have _ := ra (hbox); have _ := bz (w0 := w) hg; have _ := bz (w0 := w) hg; have _ := bn hg (bk BK167); have _ := bm hg (bk BK167); clear BK167 HB; rename_i BK167 HB BK168 GW168 GE168 NB167_168 NB168_167; clear hb hbox hg; have hnb21 := NB167_168.out; have hnc21 := NB168_167.out; have hcz22_0 : w20.cell? ⟨gb167, 0, none⟩ = some (.int .i64 a0_0) := (blk_cell BK167.out 0).trans rfl; have hcz22_1 : w20.cell? ⟨gb167, 1, none⟩ = some (.int .i64 a0_1) := (blk_cell BK167.out 1).trans rfl; have hcz22_2 : w20.cell? ⟨gb167, 2, none⟩ = some (.slice A0_2 l0_2.length c0_2) := (blk_cell BK167.out 2).trans rfl; have hfz22_0 := blk_frozen BK167.out 0; have hfz22_1 := blk_frozen BK167.out 1; have hfz22_2 := blk_frozen BK167.out 2; have hcz23_0 : w20.cell? ⟨gb168, 0, none⟩ = some (.int .i64 a1_0) := (blk_cell BK168.out 0).trans rfl; have hcz23_1 : w20.cell? ⟨gb168, 1, none⟩ = some (.int .i64 a1_1) := (blk_cell BK168.out 1).trans rfl; have hcz23_2 : w20.cell? ⟨gb168, 2, none⟩ = some (.slice A1_2 l1_2.length c1_2) := (blk_cell BK168.out 2).trans rfl; have hfz23_0 := blk_frozen BK168.out 0; have hfz23_1 := blk_frozen BK168.out 1; have hfz23_2 := blk_frozen BK168.out 2))
   go_ret
   exact ⟨re, bq⟩
 ·rw [if_neg c3] at H
  have c3b0 : (a0_0 == a1_0) = false := beq_eq_false_iff_ne.mpr c3
  have c3b1 : (a0_0 != a1_0) = true := bne_iff_ne.mpr c3
  obtain rfl := Option.some.inj H
  go_enter Try.func96, Try.ntmps96
  go_wp2_with (first | ((with_reducible refine gate_dst (N := 2) rfl ?_); refine be 2 #[.int .i64 a0_0, .int .i64 a0_1, .slice A0_2 l0_2.length c0_2] 105 ?_; intro gb167 hg w24 hbox hb; have _ := bs hb; have _ := ra (hbox); have _ := bz (w0 := w) hg; have _ := bz (w0 := w) hg; clear HB; rename_i HB BK167 GW167 GE167; clear hb hbox hg) | ((with_reducible refine gate_dst (N := 3) rfl ?_); refine be 3 #[.int .i64 a1_0, .int .i64 a1_1, .slice A1_2 l1_2.length c1_2] 105 ?_; intro gb168 hg w25 hbox hb; have _ := bb (bk BK167) hb; have _ := bs hb; have _ := ra (hbox); have _ := bz (w0 := w) hg; have _ := bz (w0 := w) hg; have _ := bn hg (bk BK167); have _ := bm hg (bk BK167); clear BK167 HB; rename_i BK167 HB BK168 GW168 GE168 NB167_168 NB168_167; clear hb hbox hg; have hnb26 := NB167_168.out; have hnc26 := NB168_167.out; have hcz27_0 : w25.cell? ⟨gb167, 0, none⟩ = some (.int .i64 a0_0) := (blk_cell BK167.out 0).trans rfl; have hcz27_1 : w25.cell? ⟨gb167, 1, none⟩ = some (.int .i64 a0_1) := (blk_cell BK167.out 1).trans rfl; have hcz27_2 : w25.cell? ⟨gb167, 2, none⟩ = some (.slice A0_2 l0_2.length c0_2) := (blk_cell BK167.out 2).trans rfl; have hfz27_0 := blk_frozen BK167.out 0; have hfz27_1 := blk_frozen BK167.out 1; have hfz27_2 := blk_frozen BK167.out 2; have hcz28_0 : w25.cell? ⟨gb168, 0, none⟩ = some (.int .i64 a1_0) := (blk_cell BK168.out 0).trans rfl; have hcz28_1 : w25.cell? ⟨gb168, 1, none⟩ = some (.int .i64 a1_1) := (blk_cell BK168.out 1).trans rfl; have hcz28_2 : w25.cell? ⟨gb168, 2, none⟩ = some (.slice A1_2 l1_2.length c1_2) := (blk_cell BK168.out 2).trans rfl; have hfz28_0 := blk_frozen BK168.out 0; have hfz28_1 := blk_frozen BK168.out 1; have hfz28_2 := blk_frozen BK168.out 2))
  go_ret
  exact ⟨re, bq⟩
def laws_eqProbeCellS.T6 : Bool × List (List Nat × List Nat) := (true, [([], []), ([], []), ([0, 1], [0, 1]), ([2], [2]), ([], []), ([], []), ([4, 5], [4, 5]), ([6], [6]), ([3, 7], [3, 7]), ([8], [8])])
def laws_eqProbeCellS.B6 : List Nat := [0, 0, 3, 7, 0, 0, 48, 112, 255, 511]
theorem laws_eqProbeCellS.tab6 : rtab .any (opsOf Try.f69 6) = laws_eqProbeCellS.T6 := by kernel_rfl
theorem laws_eqProbeCellS.bits6 : waitsOk laws_eqProbeCellS.T6.2 laws_eqProbeCellS.B6 = true := by kernel_rfl
set_option maxHeartbeats 8000000 in
set_option maxRecDepth 100000 in
theorem laws_eqProbeCellS.calls (k : Nat) (A0 : Option Addr) (c0 : Nat) (l0 : List (S105)) (A1 : Option Addr) (c1 : Nat) (l1 : List (S105)) (r : Bool) (w : World) (hr0 : Kd.C k105 w A0 l0.length l0) (hc0 : l0.length ≤ c0) (hr1 : Kd.C k105 w A1 l1.length l1) (hc1 : l1.length ≤ c1) (h : laws_eqProbeCellS.f k l0 l1 = some r) :
  Calls Try.prog 69 #[.slice A0 l0.length c0, .slice A1 l1.length c1] w fun e w' => e = .returned (.bool r) ∧ Below w.heap.size w w' := by
 have hu105 := Try.underlying105
 have HR0 := Aside0.mk hr0
 have HC0 := Aside0.mk hc0
 clear hr0 hc0
 have HR1 := Aside0.mk hr1
 have HC1 := Aside0.mk hc1
 clear hr1 hc1
 have HB := ra (Below.refl w.heap.size w)
 have H : (if (l0.length : Int) = (l1.length : Int) then (laws_eqProbeCellS.l0 k l0 l1 0) else (some false)) = some r := h
 clear h
 by_cases c3 : (l0.length : Int) = (l1.length : Int)
 ·rw [if_pos c3] at H
  have c3b0 : ((l0.length : Int) == (l1.length : Int)) = true := beq_iff_eq.mpr c3
  have c3b1 : ((l0.length : Int) != (l1.length : Int)) = false := bne_eq_false_iff_eq.mpr c3
  have c3b2 : (l0.length == l1.length) = true := by first | simpa using c3 | (simp at c3 ⊢; omega)
  clear c3
  have H' := Aside0.mk H
  clear H
  go_enter Try.func69, Try.ntmps69
  go_wp2
  go_loopg [5] k (fun kq v5 w' => ∃ (x5_1 : Int), v5 = .int .i64 x5_1 ∧ Aside0 (laws_eqProbeCellS.l0 kq l0 l1 x5_1 = some r) ∧ Aside0 (kq ≤ k) ∧ Aside0 (Below w.heap.size w w'))
  case atStart => exact ⟨(0), rs, H', ⟨Nat.le_refl _⟩, ⟨bq⟩⟩
  case round =>
   clear H'
   try clear c1
   try clear c3
   try clear c3b0
   try clear c3b1
   try clear c3b2
   obtain ⟨x5_1, rfl, HA, HK1, HB⟩ := hrel
   cases gk with
   | zero => exact absurd HA.out (by simp [laws_eqProbeCellS.l0])
   | succ k1 =>
    have H := HA.out
    clear HA
    simp only [laws_eqProbeCellS.l0] at H
    by_cases c4 : x5_1 < (l0.length : Int)
    ·rw [if_pos c4] at H
     have c4b0 : decide (x5_1 < (l0.length : Int)) = true := decide_eq_true c4
     clear c4
     by_cases c5 : 0 ≤ x5_1
     ·rw [if_pos c5] at H
      have c5b0 : decide (0 ≤ x5_1) = true := decide_eq_true c5
      clear c5
      by_cases c6 : x5_1 < (l1.length : Int)
      ·rw [if_pos c6] at H
       have c6b0 : decide (x5_1 < (l1.length : Int)) = true := decide_eq_true c6
       clear c6
       obtain ⟨t172, A7, H⟩ := bo H
       by_cases c8 : t172 = true
       ·subst c8
        replace H := it H rfl
        have H' := Aside0.mk H
        clear H
        try go_wp2
        have _ := ra (below_drew1 HB.out)
        clear HB
        rename_i HB
        have p170 : 0 ≤ (x5_1 : Int) := od
        have q170 : x5_1 < (l0.length : Int) := od
        obtain ⟨ad170, A170_2, c170_2, e170, hx170_0, hx170_1, hx170_2, hl170_2, hi170_2⟩ := at_T105 HR0.out x5_1 p170 q170
        have hw170_2 := hx170_2
        have hw170_1 := hx170_1
        have hw170_0 := hx170_0
        cases e170
        replace hx170_0 := hc HB hx170_0
        replace hx170_1 := hc HB hx170_1
        replace hx170_2 := hc HB hx170_2
        have HR170_2 := Aside0.mk hi170_2
        have HC170_2 := Aside0.mk hl170_2
        clear hi170_2 hl170_2
        replace p170 := eq_true p170
        replace q170 := eq_true q170
        have p171 : 0 ≤ (x5_1 : Int) := od
        have q171 : x5_1 < (l1.length : Int) := od
        obtain ⟨ad171, A171_2, c171_2, e171, hx171_0, hx171_1, hx171_2, hl171_2, hi171_2⟩ := at_T105 HR1.out x5_1 p171 q171
        have hw171_2 := hx171_2
        have hw171_1 := hx171_1
        have hw171_0 := hx171_0
        cases e171
        replace hx171_0 := hc HB hx171_0
        replace hx171_1 := hc HB hx171_1
        replace hx171_2 := hc HB hx171_2
        have HR171_2 := Aside0.mk hi171_2
        have HC171_2 := Aside0.mk hl171_2
        clear hi171_2 hl171_2
        replace p171 := eq_true p171
        replace q171 := eq_true q171
        refine start_ (n := 10) (S := fun w' => w'.cell? (ad170.add ((x5_1).toNat * 3)) = some (.int .i64 ((rd_T105 l0 x5_1).f0)) ∧ w'.cell? ⟨(ad170.add ((x5_1).toNat * 3)).block, (ad170.add ((x5_1).toNat * 3)).off + 1, none⟩ = some (.int .i64 ((rd_T105 l0 x5_1).f1)) ∧ w'.cell? ⟨(ad170.add ((x5_1).toNat * 3)).block, (ad170.add ((x5_1).toNat * 3)).off + 2, none⟩ = some (.slice A170_2 ((rd_T105 l0 x5_1).f2).length c170_2) ∧ w'.cell? (ad171.add ((x5_1).toNat * 3)) = some (.int .i64 ((rd_T105 l1 x5_1).f0)) ∧ w'.cell? ⟨(ad171.add ((x5_1).toNat * 3)).block, (ad171.add ((x5_1).toNat * 3)).off + 1, none⟩ = some (.int .i64 ((rd_T105 l1 x5_1).f1)) ∧ w'.cell? ⟨(ad171.add ((x5_1).toNat * 3)).block, (ad171.add ((x5_1).toNat * 3)).off + 2, none⟩ = some (.slice A171_2 ((rd_T105 l1 x5_1).f2).length c171_2)) (ds := []) (bl 10 0) (by kernel_rfl) rfl rfl ⟨(hc HB hw170_0), (hc HB hw170_1), (hc HB hw170_2), (hc HB hw171_0), (hc HB hw171_1), (hc HB hw171_2)⟩ (fun hHeld => ?_); refine with_tabW laws_eqProbeCellS.tab6 laws_eqProbeCellS.bits6 (fun HT_ HW_ => ?_)
        generalize wr.drew = w9 at HB HR170_2 HR171_2 hx170_0 hx170_1 hx170_2 hx171_0 hx171_1 hx171_2 hHeld ⊢
        refine pu 0 17 (bl 10 1) ?_
        refine pu 1 18 (bl 10 3) ?_
        refine pu 2 19 (bl 10 7) ?_
        refine pu 4 21 (bl 10 23) ?_
        refine pu 5 22 (bl 10 55) ?_
        refine pu 6 23 (bl 10 119) ?_
        refine tk 3 20 (bl 10 127) ?_ hHeld
        refine tk 7 24 (bl 10 255) ?_ hHeld
        refine oe 8 25 (bl 10 511) (fun K hK => ?_)
        refine gs Try.func96 #[.agg #[.int .i64 ((rd_T105 l0 x5_1).f0), .int .i64 ((rd_T105 l0 x5_1).f1), .slice A170_2 ((rd_T105 l0 x5_1).f2).length c170_2], .agg #[.int .i64 ((rd_T105 l1 x5_1).f0), .int .i64 ((rd_T105 l1 x5_1).f1), .slice A171_2 ((rd_T105 l1 x5_1).f2).length c171_2]] ?_
        with_reducible refine (laws_eqProbeCell.calls k1 ((rd_T105 l0 x5_1).f0) ((rd_T105 l0 x5_1).f1) _ _ ((rd_T105 l0 x5_1).f2) ((rd_T105 l1 x5_1).f0) ((rd_T105 l1 x5_1).f1) _ _ ((rd_T105 l1 x5_1).f2) true _ ?side1 ?side2 ?side3 ?side4 A7.out).mono ?_
        (case side1 => exact sc HR170_2)
        (case side2 => exact HC170_2.out)
        (case side3 => exact sc HR171_2)
        (case side4 => exact HC171_2.out)
        rintro e w10 ⟨rfl, hb⟩
        refine ⟨_, rfl, ?_⟩
        have _ := bs hb
        clear HB
        rename_i HB
        (try clear hb)
        (try clear hb2)
        (try clear hk)
        (try clear hi)
        refine hK.out _ _ ⟨(hc HB hw170_0), (hc HB hw170_1), (hc HB hw170_2), (hc HB hw171_0), (hc HB hw171_1), (hc HB hw171_2)⟩ (fun hHeld => ?_)
        clear hK K
        refine nm 25 ?_
        refine pu 9 26 (bl 10 1023) ?_
        refine done_ (done_of HT_.out (by kernel_rfl)) ?_
        try go_wp2
        go_roundg k1
        case measure => have := HK1.out; omega
        case rel => exact ⟨(wrap64 (x5_1 + 1)), rs, H', ⟨by have := HK1.out; omega⟩, ⟨bq⟩⟩
       ·replace c8 := Bool.eq_false_iff.mpr c8
        subst c8
        have H1 : (some false) = some r := by rw [if_neg (show ¬ (false = true) by decide)] at H; exact H
        clear H
        have H := H1
        clear H1
        obtain rfl := Option.some.inj H
        try go_wp2
        have _ := ra (below_drew1 HB.out)
        clear HB
        rename_i HB
        have p170 : 0 ≤ (x5_1 : Int) := od
        have q170 : x5_1 < (l0.length : Int) := od
        obtain ⟨ad170, A170_2, c170_2, e170, hx170_0, hx170_1, hx170_2, hl170_2, hi170_2⟩ := at_T105 HR0.out x5_1 p170 q170
        have hw170_2 := hx170_2
        have hw170_1 := hx170_1
        have hw170_0 := hx170_0
        cases e170
        replace hx170_0 := hc HB hx170_0
        replace hx170_1 := hc HB hx170_1
        replace hx170_2 := hc HB hx170_2
        have HR170_2 := Aside0.mk hi170_2
        have HC170_2 := Aside0.mk hl170_2
        clear hi170_2 hl170_2
        replace p170 := eq_true p170
        replace q170 := eq_true q170
        have p171 : 0 ≤ (x5_1 : Int) := od
        have q171 : x5_1 < (l1.length : Int) := od
        obtain ⟨ad171, A171_2, c171_2, e171, hx171_0, hx171_1, hx171_2, hl171_2, hi171_2⟩ := at_T105 HR1.out x5_1 p171 q171
        have hw171_2 := hx171_2
        have hw171_1 := hx171_1
        have hw171_0 := hx171_0
        cases e171
        replace hx171_0 := hc HB hx171_0
        replace hx171_1 := hc HB hx171_1
        replace hx171_2 := hc HB hx171_2
        have HR171_2 := Aside0.mk hi171_2
        have HC171_2 := Aside0.mk hl171_2
        clear hi171_2 hl171_2
        replace p171 := eq_true p171
        replace q171 := eq_true q171
        refine start_ (n := 10) (S := fun w' => w'.cell? (ad170.add ((x5_1).toNat * 3)) = some (.int .i64 ((rd_T105 l0 x5_1).f0)) ∧ w'.cell? ⟨(ad170.add ((x5_1).toNat * 3)).block, (ad170.add ((x5_1).toNat * 3)).off + 1, none⟩ = some (.int .i64 ((rd_T105 l0 x5_1).f1)) ∧ w'.cell? ⟨(ad170.add ((x5_1).toNat * 3)).block, (ad170.add ((x5_1).toNat * 3)).off + 2, none⟩ = some (.slice A170_2 ((rd_T105 l0 x5_1).f2).length c170_2) ∧ w'.cell? (ad171.add ((x5_1).toNat * 3)) = some (.int .i64 ((rd_T105 l1 x5_1).f0)) ∧ w'.cell? ⟨(ad171.add ((x5_1).toNat * 3)).block, (ad171.add ((x5_1).toNat * 3)).off + 1, none⟩ = some (.int .i64 ((rd_T105 l1 x5_1).f1)) ∧ w'.cell? ⟨(ad171.add ((x5_1).toNat * 3)).block, (ad171.add ((x5_1).toNat * 3)).off + 2, none⟩ = some (.slice A171_2 ((rd_T105 l1 x5_1).f2).length c171_2)) (ds := []) (bl 10 0) (by kernel_rfl) rfl rfl ⟨(hc HB hw170_0), (hc HB hw170_1), (hc HB hw170_2), (hc HB hw171_0), (hc HB hw171_1), (hc HB hw171_2)⟩ (fun hHeld => ?_); refine with_tabW laws_eqProbeCellS.tab6 laws_eqProbeCellS.bits6 (fun HT_ HW_ => ?_)
        generalize wr.drew = w11 at HB HR170_2 HR171_2 hx170_0 hx170_1 hx170_2 hx171_0 hx171_1 hx171_2 hHeld ⊢
        refine pu 0 17 (bl 10 1) ?_
        refine pu 1 18 (bl 10 3) ?_
        refine pu 2 19 (bl 10 7) ?_
        refine pu 4 21 (bl 10 23) ?_
        refine pu 5 22 (bl 10 55) ?_
        refine pu 6 23 (bl 10 119) ?_
        refine tk 3 20 (bl 10 127) ?_ hHeld
        refine tk 7 24 (bl 10 255) ?_ hHeld
        refine oe 8 25 (bl 10 511) (fun K hK => ?_)
        refine gs Try.func96 #[.agg #[.int .i64 ((rd_T105 l0 x5_1).f0), .int .i64 ((rd_T105 l0 x5_1).f1), .slice A170_2 ((rd_T105 l0 x5_1).f2).length c170_2], .agg #[.int .i64 ((rd_T105 l1 x5_1).f0), .int .i64 ((rd_T105 l1 x5_1).f1), .slice A171_2 ((rd_T105 l1 x5_1).f2).length c171_2]] ?_
        with_reducible refine (laws_eqProbeCell.calls k1 ((rd_T105 l0 x5_1).f0) ((rd_T105 l0 x5_1).f1) _ _ ((rd_T105 l0 x5_1).f2) ((rd_T105 l1 x5_1).f0) ((rd_T105 l1 x5_1).f1) _ _ ((rd_T105 l1 x5_1).f2) false _ ?side1 ?side2 ?side3 ?side4 A7.out).mono ?_
        (case side1 => exact sc HR170_2)
        (case side2 => exact HC170_2.out)
        (case side3 => exact sc HR171_2)
        (case side4 => exact HC171_2.out)
        rintro e w12 ⟨rfl, hb⟩
        refine ⟨_, rfl, ?_⟩
        have _ := bs hb
        clear HB
        rename_i HB
        (try clear hb)
        (try clear hb2)
        (try clear hk)
        (try clear hi)
        refine hK.out _ _ ⟨(hc HB hw170_0), (hc HB hw170_1), (hc HB hw170_2), (hc HB hw171_0), (hc HB hw171_1), (hc HB hw171_2)⟩ (fun hHeld => ?_)
        clear hK K
        refine nm 25 ?_
        refine pu 9 26 (bl 10 1023) ?_
        refine done_ (done_of HT_.out (by kernel_rfl)) ?_
        try go_wp2
        go_ret
        exact ⟨re, bq⟩
      ·rw [if_neg c6] at H
       exact absurd H (by simp)
     ·rw [if_neg c5] at H
      exact absurd H (by simp)
    ·rw [if_neg c4] at H
     have c4b0 : decide (x5_1 < (l0.length : Int)) = false := decide_eq_false c4
     clear c4
     obtain rfl := Option.some.inj H
     go_wp2
     go_ret
     exact ⟨re, bq⟩
 ·rw [if_neg c3] at H
  have c3b0 : ((l0.length : Int) == (l1.length : Int)) = false := beq_eq_false_iff_ne.mpr c3
  have c3b1 : ((l0.length : Int) != (l1.length : Int)) = true := bne_iff_ne.mpr c3
  have c3b2 : (l0.length == l1.length) = false := by first | simpa using c3 | (simp at c3 ⊢; omega)
  obtain rfl := Option.some.inj H
  go_enter Try.func69, Try.ntmps69
  go_wp2
  go_ret
  exact ⟨re, bq⟩
set_option maxHeartbeats 8000000 in
set_option maxRecDepth 100000 in
theorem laws_eqProbeIndex.calls (k : Nat) (A0_0 : Option Addr) (c0_0 : Nat) (l0_0 : List (S105)) (A1_0 : Option Addr) (c1_0 : Nat) (l1_0 : List (S105)) (r : Bool) (w : World) (hr0_0 : Kd.C k105 w A0_0 l0_0.length l0_0) (hc0_0 : l0_0.length ≤ c0_0) (hr1_0 : Kd.C k105 w A1_0 l1_0.length l1_0) (hc1_0 : l1_0.length ≤ c1_0) (h : laws_eqProbeIndex.f k l0_0 l1_0 = some r) :
  Calls Try.prog 38 #[.agg #[.slice A0_0 l0_0.length c0_0], .agg #[.slice A1_0 l1_0.length c1_0]] w fun e w' => e = .returned (.bool r) ∧ Below w.heap.size w w' := by
 have hu65 := Try.underlying65
 have HR0_0 := Aside0.mk hr0_0
 have HC0_0 := Aside0.mk hc0_0
 clear hr0_0 hc0_0
 have HR1_0 := Aside0.mk hr1_0
 have HC1_0 := Aside0.mk hc1_0
 clear hr1_0 hc1_0
 have HB := ra (Below.refl w.heap.size w)
 have H : ((laws_eqProbeCellS.f k l0_0 l1_0).bind fun t175 => (if t175 = true then (some true) else (some false))) = some r := h
 clear h
 obtain ⟨t175, A3, H⟩ := bo H
 by_cases c4 : t175 = true
 ·subst c4
  replace H := it H rfl
  obtain rfl := Option.some.inj H
  go_enter Try.func38, Try.ntmps38
  go_wp2_with (first | ((with_reducible refine gate_dst (N := 2) rfl ?_); refine be 2 #[.slice A0_0 l0_0.length c0_0] 65 ?_; intro gb173 hg w5 hbox hb; have _ := bs hb; have _ := ra (hbox); have _ := bz (w0 := w) hg; have _ := bz (w0 := w) hg; clear HB; rename_i HB BK173 GW173 GE173; clear hb hbox hg) | ((with_reducible refine gate_dst (N := 3) rfl ?_); refine be 3 #[.slice A1_0 l1_0.length c1_0] 65 ?_; intro gb174 hg w6 hbox hb; have _ := bb (bk BK173) hb; have _ := bs hb; have _ := ra (hbox); have _ := bz (w0 := w) hg; have _ := bz (w0 := w) hg; have _ := bn hg (bk BK173); have _ := bm hg (bk BK173); clear BK173 HB; rename_i BK173 HB BK174 GW174 GE174 NB173_174 NB174_173; clear hb hbox hg; have hnb7 := NB173_174.out; have hnc7 := NB174_173.out; obtain ⟨hcz8_0, hfz8_0⟩ := zc1 BK173; obtain ⟨hcz9_0, hfz9_0⟩ := zc1 BK174) | ((with_reducible refine gate_callee (f := 69) rfl ?_); refine gl (some 9) Try.func69 #[.slice A0_0 l0_0.length c0_0, .slice A1_0 l1_0.length c1_0] ?_; (with_reducible refine (laws_eqProbeCellS.calls k _ _ l0_0 _ _ l1_0 true _ ?side1 ?side2 ?side3 ?side4 A3.out).mono ?_); (case side1 => exact sc HR0_0); (case side2 => exact HC0_0.out); (case side3 => exact sc HR1_0); (case side4 => exact HC1_0.out); rintro e w10 ⟨rfl, hb⟩; refine ⟨_, rfl, ?_⟩; have _ := bb (bk BK173) hb; have _ := bb (bk BK174) hb; have _ := bs hb; clear BK173 BK174 HB; rename_i BK173 BK174 HB; (try clear hb); (try clear hb2); (try clear hk); (try clear hi)))
  go_ret
  exact ⟨re, bq⟩
 ·replace c4 := Bool.eq_false_iff.mpr c4
  subst c4
  have H1 : (some false) = some r := by rw [if_neg (show ¬ (false = true) by decide)] at H; exact H
  clear H
  have H := H1
  clear H1
  obtain rfl := Option.some.inj H
  go_enter Try.func38, Try.ntmps38
  go_wp2_with (first | ((with_reducible refine gate_dst (N := 2) rfl ?_); refine be 2 #[.slice A0_0 l0_0.length c0_0] 65 ?_; intro gb173 hg w11 hbox hb; have _ := bs hb; have _ := ra (hbox); have _ := bz (w0 := w) hg; have _ := bz (w0 := w) hg; clear HB; rename_i HB BK173 GW173 GE173; clear hb hbox hg) | ((with_reducible refine gate_dst (N := 3) rfl ?_); refine be 3 #[.slice A1_0 l1_0.length c1_0] 65 ?_; intro gb174 hg w12 hbox hb; have _ := bb (bk BK173) hb; have _ := bs hb; have _ := ra (hbox); have _ := bz (w0 := w) hg; have _ := bz (w0 := w) hg; have _ := bn hg (bk BK173); have _ := bm hg (bk BK173); clear BK173 HB; rename_i BK173 HB BK174 GW174 GE174 NB173_174 NB174_173; clear hb hbox hg; have hnb13 := NB173_174.out; have hnc13 := NB174_173.out; obtain ⟨hcz14_0, hfz14_0⟩ := zc1 BK173; obtain ⟨hcz15_0, hfz15_0⟩ := zc1 BK174) | ((with_reducible refine gate_callee (f := 69) rfl ?_); refine gl (some 9) Try.func69 #[.slice A0_0 l0_0.length c0_0, .slice A1_0 l1_0.length c1_0] ?_; (with_reducible refine (laws_eqProbeCellS.calls k _ _ l0_0 _ _ l1_0 false _ ?side1 ?side2 ?side3 ?side4 A3.out).mono ?_); (case side1 => exact sc HR0_0); (case side2 => exact HC0_0.out); (case side3 => exact sc HR1_0); (case side4 => exact HC1_0.out); rintro e w16 ⟨rfl, hb⟩; refine ⟨_, rfl, ?_⟩; have _ := bb (bk BK173) hb; have _ := bb (bk BK174) hb; have _ := bs hb; clear BK173 BK174 HB; rename_i BK173 BK174 HB; (try clear hb); (try clear hb2); (try clear hk); (try clear hi)))
  go_ret
  exact ⟨re, bq⟩
end Go.Proofs.Ytdbomnhdpniigaa.PA
