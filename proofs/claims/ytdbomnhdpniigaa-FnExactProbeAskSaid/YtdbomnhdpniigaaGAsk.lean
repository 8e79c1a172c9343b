/- Contracts of the functions impl_ProbeClash_ahead, impl_ProbeAsk. (Began as a print of the kit's tool.) -/
import Derived.Test.YtdbomnhdpniigaaPAd
import Derived.Test.YtdbomnhdpniigaaCx
import Derived.Test.YtdbomnhdpniigaaSst
import Derived.Test.YtdbomnhdpniigaaGBase
import Derived.Test.YtdbomnhdpniigaaGMeet
namespace Go.Proofs.Ytdbomnhdpniigaa.PA
open Go.RowKit Go.Proofs.YtdbomnhdpniigaaW.PrintWords Go.Proofs.YtdbomnhdpniigaaW.PrintLast Go.Proofs.YtdbomnhdpniigaaW.PrintMore Go.Proofs.Ytdbomnhdpniigaa.Z
attribute [local go_sem] max2_int min2_int max_two min_two max_three min_three max_four min_four
set_option linter.unusedVariables false
set_option linter.unusedSimpArgs false
open Go.Maps
set_option maxHeartbeats 8000000 in
set_option maxRecDepth 100000 in
theorem impl_ProbeClash_ahead.calls (a0_0 : ByteArray) (a0_1 : ByteArray) (a0_2 : Int) (a0_3 : Int) (a0_4 : Int) (a1_0 : ByteArray) (a1_1 : ByteArray) (a1_2 : Int) (a1_3 : Int) (a1_4 : Int) (r : Bool) (w : World) (h : impl_ProbeClash_ahead.f a0_0 a0_1 a0_2 a0_3 a0_4 a1_0 a1_1 a1_2 a1_3 a1_4 = some r) :
  Calls Try.prog 77 #[.agg #[.string a0_0, .string a0_1, .int .i64 a0_2, .int .i64 a0_3, .int .i64 a0_4], .agg #[.string a1_0, .string a1_1, .int .i64 a1_2, .int .i64 a1_3, .int .i64 a1_4]] w fun e w' => e = .returned (.bool r) ∧ Below w.heap.size w w' := by
 have hu49 := Try.underlying49
 have HB := ra (Below.refl w.heap.size w)
 have H : (if a0_2 = a1_2 then (if a0_3 = a1_3 then (some (decide (a0_4 < a1_4))) else (some (decide (a0_3 < a1_3)))) else (some (decide (a0_2 < a1_2)))) = some r := h
 clear h
 by_cases c3 : a0_2 = a1_2
 ·rw [if_pos c3] at H
  have c3b0 : (a0_2 == a1_2) = true := beq_iff_eq.mpr c3
  have c3b1 : (a0_2 != a1_2) = false := bne_eq_false_iff_eq.mpr c3
  clear c3
  by_cases c4 : a0_3 = a1_3
  ·rw [if_pos c4] at H
   have c4b0 : (a0_3 == a1_3) = true := beq_iff_eq.mpr c4
   have c4b1 : (a0_3 != a1_3) = false := bne_eq_false_iff_eq.mpr c4
   clear c4
   obtain rfl := Option.some.inj H
   go_enter Try.func77, Try.ntmps77
   go_wp2_with (first | ((with_reducible refine gate_dst (N := 2) rfl ?_); refine be 2 #[.string a0_0, .string a0_1, .int .i64 a0_2, .int .i64 a0_3, .int .i64 a0_4] 49 ?_; intro gb393 hg w5 hbox hb; have _ := bs hb; have _ := ra (hbox); have _ := bz (w0 := w) hg; have _ := bz (w0 := w) hg; clear HB; rename_i HB BK393 GW393 GE393; clear hb hbox hg) | ((with_reducible refine gate_dst (N := 3) rfl ?_); refine be 3 #[.string a1_0, .string a1_1, .int .i64 a1_2, .int .i64 a1_3, .int .i64 a1_4] 49 ?_; intro gb394 hg w6 hbox hb; have _ := bb (bk BK393) hb; have _ := bs hb; have _ := ra (hbox); have _ := bz (w0 := w) hg; have _ := bz (w0 := w) hg; have _ := bn hg (bk BK393); have _ := bm hg (bk BK393); clear BK393 HB; rename_i BK393 HB BK394 GW394 GE394 NB393_394 NB394_393; clear hb hbox hg; have hnb7 := NB393_394.out; have hnc7 := NB394_393.out; obtain ⟨hcz8_0, hcz8_1, hcz8_2, hcz8_3, hcz8_4, hfz8_0, hfz8_1, hfz8_2, hfz8_3, hfz8_4⟩ := zc5 BK393; obtain ⟨hcz9_0, hcz9_1, hcz9_2, hcz9_3, hcz9_4, hfz9_0, hfz9_1, hfz9_2, hfz9_3, hfz9_4⟩ := zc5 BK394))
   go_ret
   exact ⟨re, bq⟩
  ·rw [if_neg c4] at H
   have c4b0 : (a0_3 == a1_3) = false := beq_eq_false_iff_ne.mpr c4
   have c4b1 : (a0_3 != a1_3) = true := bne_iff_ne.mpr c4
   obtain rfl := Option.some.inj H
   go_enter Try.func77, Try.ntmps77
   go_wp2_with (first | ((with_reducible refine gate_dst (N := 2) rfl ?_); refine be 2 #[.string a0_0, .string a0_1, .int .i64 a0_2, .int .i64 a0_3, .int .i64 a0_4] 49 ?_; intro gb393 hg w10 hbox hb; have _ := bs hb; have _ := ra (hbox); have _ := bz (w0 := w) hg; have _ := bz (w0 := w) hg; clear HB; rename_i HB BK393 GW393 GE393; clear hb hbox hg) | ((with_reducible refine gate_dst (N := 3) rfl ?_); refine be 3 #[.string a1_0, .string a1_1, .int .i64 a1_2, .int .i64 a1_3, .int .i64 a1_4] 49 ?_; intro gb394 hg w11 hbox hb; have _ := bb (bk BK393) hb; have _ := bs hb; have _ := ra (hbox); have _ := bz (w0 := w) hg; have _ := bz (w0 := w) hg; have _ := bn hg (bk BK393); have _ := bm hg (bk BK393); clear BK393 HB; rename_i BK393 HB BK394 GW394 GE394 NB393_394 NB394_393; clear hb hbox hg; have hnb12 := NB393_394.out; have hnc12 := NB394_393.out; obtain ⟨hcz13_0, hcz13_1, hcz13_2, hcz13_3, hcz13_4, hfz13_0, hfz13_1, hfz13_2, hfz13_3, hfz13_4⟩ := zc5 BK393; obtain ⟨hcz14_0, hcz14_1, hcz14_2, hcz14_3, hcz14_4, hfz14_0, hfz14_1, hfz14_2, hfz14_3, hfz14_4⟩ := zc5 BK394))
   go_ret
   exact ⟨re, bq⟩
 ·rw [if_neg c3] at H
  have c3b0 : (a0_2 == a1_2) = false := beq_eq_false_iff_ne.mpr c3
  have c3b1 : (a0_2 != a1_2) = true := bne_iff_ne.mpr c3
  obtain rfl := Option.some.inj H
  go_enter Try.func77, Try.ntmps77
  go_wp2_with (first | ((with_reducible refine gate_dst (N := 2) rfl ?_); refine be 2 #[.string a0_0, .string a0_1, .int .i64 a0_2, .int .i64 a0_3, .int .i64 a0_4] 49 ?_; intro gb393 hg w15 hbox hb; have _ := bs hb; have _ := ra (hbox); have _ := bz (w0 := w) hg; have _ := bz (w0 := w) hg; clear HB; rename_i HB BK393 GW393 GE393; clear hb hbox hg) | ((with_reducible refine gate_dst (N := 3) rfl ?_); refine be 3 #[.string a1_0, .string a1_1, .int .i64 a1_2, .int .i64 a1_3, .int .i64 a1_4] 49 ?_; intro gb394 hg w16 hbox hb; have _ := bb (bk BK393) hb; have _ := bs hb; have _ := ra (hbox); have _ := bz (w0 := w) hg; have _ := bz (w0 := w) hg; have _ := bn hg (bk BK393); have _ := bm hg (bk BK393); clear BK393 HB; rename_i BK393 HB BK394 GW394 GE394 NB393_394 NB394_393; clear hb hbox hg; have hnb17 := NB393_394.out; have hnc17 := NB394_393.out; obtain ⟨hcz18_0, hcz18_1, hcz18_2, hcz18_3, hcz18_4, hfz18_0, hfz18_1, hfz18_2, hfz18_3, hfz18_4⟩ := zc5 BK393; obtain ⟨hcz19_0, hcz19_1, hcz19_2, hcz19_3, hcz19_4, hfz19_0, hfz19_1, hfz19_2, hfz19_3, hfz19_4⟩ := zc5 BK394))
  go_ret
  exact ⟨re, bq⟩
set_option maxHeartbeats 8000000 in
set_option maxRecDepth 100000 in
theorem impl_ProbeAsk.calls (k : Nat) (A0_0 : Option Addr) (c0_0 : Nat) (l0_0 : List (S105)) (a1_0 : ByteArray) (A1_1 : Option Addr) (c1_1 : Nat) (l1_1 : List (S95)) (r : List (S49)) (w : World) (hr0_0 : Kd.C k105 w A0_0 l0_0.length l0_0) (hc0_0 : l0_0.length ≤ c0_0) (hr1_1 : Kd.C k95 w A1_1 l1_1.length l1_1) (hc1_1 : l1_1.length ≤ c1_1) (h : impl_ProbeAsk.f k l0_0 a1_0 l1_1 = some r) :
  Calls Try.prog 44 #[.agg #[.slice A0_0 l0_0.length c0_0], .agg #[.string a1_0, .slice A1_1 l1_1.length c1_1]] w fun e w' => ∃ v0_ : Value, e = .returned (v0_) ∧ Kd.R k49 49 w' w.heap.size (fun _ => True) v0_ r ∧ Below w.heap.size w w' := by
 have hu65 := Try.underlying65
 have hu40 := Try.underlying40
 have hu105 := Try.underlying105
 have hu101 := Try.underlying101
 have hu95 := Try.underlying95
 have hu49 := Try.underlying49
 have HR0_0 := Aside0.mk hr0_0
 have HC0_0 := Aside0.mk hc0_0
 clear hr0_0 hc0_0
 have HR1_1 := Aside0.mk hr1_1
 have HC1_1 := Aside0.mk hc1_1
 clear hr1_1 hc1_1
 have HB := ra (Below.refl w.heap.size w)
 have H : ((impl_ProbeTubeOk.f k a1_0 l1_1).bind fun t517 => (if t517 = true then (impl_ProbeAsk.l0 k l0_0 (l0_0.length : Int) 0 a1_0 l1_1 ([] : Mp.MS)) else (some ([] : List (S49))))) = some r := h
 clear h
 obtain ⟨t517, A3, H⟩ := bo H
 by_cases c4 : t517 = true
 ·subst c4
  replace H := it H rfl
  have H' := Aside0.mk H
  clear H
  go_enter Try.func44, Try.ntmps44
  go_wp2_with (first | ((with_reducible refine gate_dst (N := 2) rfl ?_); refine be 2 #[.slice A0_0 l0_0.length c0_0] 65 ?_; intro gb515 hg w5 hbox hb; have _ := bs hb; have _ := ra (hbox); have _ := bz (w0 := w) hg; have _ := bz (w0 := w) hg; clear HB; rename_i HB BK515 GW515 GE515; clear hb hbox hg) | ((with_reducible refine gate_dst (N := 3) rfl ?_); refine be 3 #[.string a1_0, .slice A1_1 l1_1.length c1_1] 40 ?_; intro gb516 hg w6 hbox hb; have _ := bb (bk BK515) hb; have _ := bs hb; have _ := ra (hbox); have _ := bz (w0 := w) hg; have _ := bz (w0 := w) hg; have _ := bn hg (bk BK515); have _ := bm hg (bk BK515); clear BK515 HB; rename_i BK515 HB BK516 GW516 GE516 NB515_516 NB516_515; clear hb hbox hg; have hnb7 := NB516_515.out; have hnc7 := NB515_516.out; obtain ⟨hcz8_0, hcz8_1, hfz8_0, hfz8_1⟩ := zc2 BK516) | ((with_reducible refine gate_callee (f := 54) rfl ?_); refine gl (some 24) Try.func54 #[.agg #[.string a1_0, .slice A1_1 l1_1.length c1_1]] ?_; (with_reducible refine (impl_ProbeTubeOk.calls k a1_0 _ _ l1_1 true _ ?side1 ?side2 A3.out).mono ?_); (case side1 => exact sc HR1_1); (case side2 => exact HC1_1.out); rintro e w9 ⟨rfl, hb⟩; refine ⟨_, rfl, ?_⟩; have _ := bb (bk BK515) hb; have _ := bb (bk BK516) hb; have _ := bs hb; clear BK515 BK516 HB; rename_i BK515 BK516 HB; (try clear hb); (try clear hb2); (try clear hk); (try clear hi)) | ((with_reducible refine gate_dst (N := 26) rfl ?_); refine Mp.mk_event ?hg ?hr ?_; (case hg => rfl); (case hr => rfl); intro gb518 hg w10 hbox hb; have _ := bb (bk BK515) hb; have _ := bb (bk BK516) hb; have _ := bs hb; have _ := ra (hbox); have _ := bz (w0 := w) hg; have _ := bz (w0 := w) hg; have _ := bn hg (bk BK515); have _ := bm hg (bk BK515); have _ := bn hg (bk BK516); have _ := bm hg (bk BK516); clear BK515 BK516 HB; rename_i BK515 BK516 HB BK518 GW518 GE518 NB515_518 NB518_515 NB516_518 NB518_516; clear hb hbox hg; have hnb11 := NB515_518.out; have hnc11 := NB518_515.out; obtain ⟨hcz12_0, hfz12_0⟩ := zc1 BK515))
  go_loopg [30] k (fun kq v30 w' => ∃ (x30_1 : Int) (x519000_1 : Mp.MS), v30 = .int .i64 x30_1 ∧ Aside0 (impl_ProbeAsk.l0 kq l0_0 (l0_0.length : Int) x30_1 a1_0 l1_1 x519000_1 = some r) ∧ Aside0 (kq ≤ k) ∧ Aside0 (w'.heap[gb515]? = some (.cells #[(.slice A0_0 l0_0.length c0_0)] 65 (0, 0))) ∧ Aside0 (w'.heap[gb516]? = some (.cells #[.string a1_0, (.slice A1_1 l1_1.length c1_1)] 40 (0, 0))) ∧ Aside0 (w'.heap[gb518]? = some (Mp.mobj x519000_1)) ∧ Aside0 (Below w.heap.size w w'))
  case atStart => exact ⟨(0), (([] : Mp.MS)), rs, H', ⟨Nat.le_refl _⟩, ⟨bk BK515⟩, ⟨bk BK516⟩, ⟨Mp.mb BK518⟩, ⟨bq⟩⟩
  case round =>
   clear H'
   try clear c4
   try clear hcz12_0
   try clear hcz8_0
   try clear hcz8_1
   try clear hfz12_0
   try clear hfz8_0
   try clear hfz8_1
   obtain ⟨x30_1, x519000_1, rfl, HA, HK1, BK515, BK516, BK518, HB⟩ := hrel
   cases gk with
   | zero => exact absurd HA.out (by simp [impl_ProbeAsk.l0])
   | succ k1 =>
    have H := HA.out
    clear HA
    simp only [impl_ProbeAsk.l0] at H
    by_cases c13 : x30_1 < (l0_0.length : Int)
    ·rw [if_pos c13] at H
     have c13b0 : decide (x30_1 < (l0_0.length : Int)) = true := decide_eq_true c13
     clear c13
     by_cases c14 : 0 ≤ x30_1
     ·rw [if_pos c14] at H
      have c14b0 : decide (0 ≤ x30_1) = true := decide_eq_true c14
      clear c14
      by_cases c15 : x30_1 < (l0_0.length : Int)
      ·rw [if_pos c15] at H
       have c15b0 : decide (x30_1 < (l0_0.length : Int)) = true := decide_eq_true c15
       clear c15
       have H' := Aside0.mk H
       clear H
       have p519 : 0 ≤ (x30_1 : Int) := od
       have q519 : x30_1 < (l0_0.length : Int) := od
       obtain ⟨ad519, A519_2, c519_2, e519, hx519_0, hx519_1, hx519_2, hl519_2, hi519_2⟩ := at_T105 HR0_0.out x30_1 p519 q519
       cases e519
       replace hx519_0 := hc HB hx519_0
       replace hx519_1 := hc HB hx519_1
       replace hx519_2 := hc HB hx519_2
       have HR519_2 := Aside0.mk hi519_2
       have HC519_2 := Aside0.mk hl519_2
       clear hi519_2 hl519_2
       replace p519 := eq_true p519
       replace q519 := eq_true q519
       go_wp2_with (first | ((with_reducible refine gate_dst (N := 7) rfl ?_); refine be 7 #[.int .i64 0, .int .i64 0, .slice none 0 0] 105 ?_; intro gb520 hg w16 hbox hb; have _ := bb (bk BK515) hb; have _ := bb (bk BK516) hb; have _ := bb (Mp.mb BK518) hb; have _ := bs hb; have _ := ra (hbox); have _ := bz (w0 := w) hg; have _ := bz (w0 := w) hg; have _ := bn hg (bk BK515); have _ := bm hg (bk BK515); have _ := bn hg (bk BK516); have _ := bm hg (bk BK516); have _ := Mp.mn hg (Mp.mb BK518); have _ := Mp.mm hg (Mp.mb BK518); clear BK515 BK516 BK518 HB; rename_i BK515 BK516 BK518 HB BK520 GW520 GE520 NB515_520 NB520_515 NB516_520 NB520_516 NB518_520 NB520_518; clear hb hbox hg; have hnb17 := NB520_515.out; have hnc17 := NB515_520.out; have hnb18 := NB520_516.out; have hnc18 := NB516_520.out; have hnb19 := NB520_518.out; have hnc19 := NB518_520.out; have hcz20_0 : w16.cell? ⟨gb520, 0, none⟩ = some (.int .i64 0) := (blk_cell BK520.out 0).trans rfl; have hcz20_1 : w16.cell? ⟨gb520, 1, none⟩ = some (.int .i64 0) := (blk_cell BK520.out 1).trans rfl; have hcz20_2 : w16.cell? ⟨gb520, 2, none⟩ = some (.slice none 0 0) := (blk_cell BK520.out 2).trans rfl; have hfz20_0 := blk_frozen BK520.out 0; have hfz20_1 := blk_frozen BK520.out 1; have hfz20_2 := blk_frozen BK520.out 2))
       go_loopg [37] k1 (fun kq v37 w' => ∃ (x37_2 : Int) (x519000_2 : Mp.MS), v37 = .int .i64 x37_2 ∧ Aside0 (impl_ProbeAsk.l1 kq l0_0 (l0_0.length : Int) x30_1 ((rd_T105 l0_0 x30_1).f2) (((rd_T105 l0_0 x30_1).f2).length : Int) x37_2 a1_0 l1_1 x519000_2 ((rd_T105 l0_0 x30_1).f0) ((rd_T105 l0_0 x30_1).f1) ((rd_T105 l0_0 x30_1).f2) = some r) ∧ Aside0 (kq ≤ k1) ∧ Aside0 (w'.heap[gb515]? = some (.cells #[(.slice (some ad519) l0_0.length c0_0)] 65 (0, 0))) ∧ Aside0 (w'.heap[gb516]? = some (.cells #[.string a1_0, (.slice A1_1 l1_1.length c1_1)] 40 (0, 0))) ∧ Aside0 (w'.heap[gb518]? = some (Mp.mobj x519000_2)) ∧ Aside0 (w'.heap[gb520]? = some (.cells #[.int .i64 ((rd_T105 l0_0 x30_1).f0), .int .i64 ((rd_T105 l0_0 x30_1).f1), (.slice A519_2 ((rd_T105 l0_0 x30_1).f2).length c519_2)] 105 (0, 0))) ∧ Aside0 (Below w.heap.size w w'))
       case atStart => exact ⟨(0), (x519000_1), rs, H', ⟨Nat.le_refl _⟩, ⟨bk BK515⟩, ⟨bk BK516⟩, ⟨Mp.mb BK518⟩, ⟨bp BK520⟩, ⟨bq⟩⟩
       case round =>
        clear H'
        try clear c4
        try clear c13
        try clear c13b0
        try clear c14
        try clear c14b0
        try clear c15
        try clear c15b0
        try clear hcz12_0
        try clear hcz20_0
        try clear hcz20_1
        try clear hcz20_2
        try clear hcz8_0
        try clear hcz8_1
        try clear hfz12_0
        try clear hfz20_0
        try clear hfz20_1
        try clear hfz20_2
        try clear hfz8_0
        try clear hfz8_1
        try clear hx519_0
        try clear hx519_1
        try clear hx519_2
        try clear p519
        try clear q519
        obtain ⟨x37_2, x519000_2, rfl, HA, HK2, BK515, BK516, BK518, BK520, HB⟩ := hrel
        cases gk with
        | zero => exact absurd HA.out (by simp [impl_ProbeAsk.l1])
        | succ k2 =>
         have H := HA.out
         clear HA
         simp only [impl_ProbeAsk.l1] at H
         by_cases c21 : x37_2 < (((rd_T105 l0_0 x30_1).f2).length : Int)
         ·rw [if_pos c21] at H
          have c21b0 : decide (x37_2 < (((rd_T105 l0_0 x30_1).f2).length : Int)) = true := decide_eq_true c21
          clear c21
          by_cases c22 : 0 ≤ x37_2
          ·rw [if_pos c22] at H
           have c22b0 : decide (0 ≤ x37_2) = true := decide_eq_true c22
           clear c22
           by_cases c23 : x37_2 < (((rd_T105 l0_0 x30_1).f2).length : Int)
           ·rw [if_pos c23] at H
            have c23b0 : decide (x37_2 < (((rd_T105 l0_0 x30_1).f2).length : Int)) = true := decide_eq_true c23
            clear c23
            by_cases c24 : ((rd_T101 ((rd_T105 l0_0 x30_1).f2) x37_2).f4).toList = a1_0.toList
            ·rw [if_pos c24] at H
             have c24b0 : (((rd_T101 ((rd_T105 l0_0 x30_1).f2) x37_2).f4).toList == a1_0.toList) = true := beq_iff_eq.mpr c24
             have c24b1 : (((rd_T101 ((rd_T105 l0_0 x30_1).f2) x37_2).f4).toList != a1_0.toList) = false := bne_eq_false_iff_eq.mpr c24
             clear c24
             have H' := Aside0.mk H
             clear H
             have p521 : 0 ≤ (x37_2 : Int) := od
             have q521 : x37_2 < (((rd_T105 l0_0 x30_1).f2).length : Int) := od
             obtain ⟨ad521, e521, hx521_0, hx521_1, hx521_2, hx521_3, hx521_4, hx521_5⟩ := at_T101 HR519_2.out x37_2 p521 q521
             cases e521
             replace hx521_0 := hc HB hx521_0
             replace hx521_1 := hc HB hx521_1
             replace hx521_2 := hc HB hx521_2
             replace hx521_3 := hc HB hx521_3
             replace hx521_4 := hc HB hx521_4
             replace hx521_5 := hc HB hx521_5
             replace p521 := eq_true p521
             replace q521 := eq_true q521
             go_wp2_with (first | ((with_reducible refine gate_dst (N := 9) rfl ?_); refine be 9 #[.int .i64 0, .int .i64 0, .int .i64 0, .int .i64 0, .string (⟨#[]⟩ : ByteArray), .int .i64 0] 101 ?_; intro gb522 hg w25 hbox hb; have _ := bb (bk BK515) hb; have _ := bb (bk BK516) hb; have _ := bb (Mp.mb BK518) hb; have _ := bb (bk BK520) hb; have _ := bs hb; have _ := ra (hbox); have _ := bz (w0 := w) hg; have _ := bz (w0 := w) hg; have _ := bn hg (bk BK515); have _ := bm hg (bk BK515); have _ := bn hg (bk BK516); have _ := bm hg (bk BK516); have _ := Mp.mn hg (Mp.mb BK518); have _ := Mp.mm hg (Mp.mb BK518); have _ := bn hg (bk BK520); have _ := bm hg (bk BK520); clear BK515 BK516 BK518 BK520 HB; rename_i BK515 BK516 BK518 BK520 HB BK522 GW522 GE522 NB515_522 NB522_515 NB516_522 NB522_516 NB518_522 NB522_518 NB520_522 NB522_520; clear hb hbox hg; have hnb26 := NB522_515.out; have hnc26 := NB515_522.out; have hnb27 := NB522_516.out; have hnc27 := NB516_522.out; have hnb28 := NB522_518.out; have hnc28 := NB518_522.out; have hnb29 := NB522_520.out; have hnc29 := NB520_522.out; obtain ⟨hcz30_0, hcz30_1, hcz30_2, hcz30_3, hcz30_4, hcz30_5, hfz30_0, hfz30_1, hfz30_2, hfz30_3, hfz30_4, hfz30_5⟩ := zc6 BK522; have hnb31 := NB516_515.out; have hnc31 := NB515_516.out; have hnb32 := NB516_518.out; have hnc32 := NB518_516.out; have hnb33 := NB516_520.out; have hnc33 := NB520_516.out; obtain ⟨hcz34_0, hcz34_1, hfz34_0, hfz34_1⟩ := zc2 BK516))
             go_roundg k2
             case measure => have := HK1.out; have := HK2.out; omega
             case rel => exact ⟨(wrap64 (x37_2 + 1)), (x519000_2), rs, H', ⟨by have := HK1.out; have := HK2.out; omega⟩, ⟨bk BK515⟩, ⟨bk BK516⟩, ⟨Mp.mb BK518⟩, ⟨bk BK520⟩, ⟨bq⟩⟩
            ·rw [if_neg c24] at H
             have c24b0 : (((rd_T101 ((rd_T105 l0_0 x30_1).f2) x37_2).f4).toList == a1_0.toList) = false := beq_eq_false_iff_ne.mpr c24
             have c24b1 : (((rd_T101 ((rd_T105 l0_0 x30_1).f2) x37_2).f4).toList != a1_0.toList) = true := bne_iff_ne.mpr c24
             have H' := Aside0.mk H
             clear H
             have p521 : 0 ≤ (x37_2 : Int) := od
             have q521 : x37_2 < (((rd_T105 l0_0 x30_1).f2).length : Int) := od
             obtain ⟨ad521, e521, hx521_0, hx521_1, hx521_2, hx521_3, hx521_4, hx521_5⟩ := at_T101 HR519_2.out x37_2 p521 q521
             cases e521
             replace hx521_0 := hc HB hx521_0
             replace hx521_1 := hc HB hx521_1
             replace hx521_2 := hc HB hx521_2
             replace hx521_3 := hc HB hx521_3
             replace hx521_4 := hc HB hx521_4
             replace hx521_5 := hc HB hx521_5
             replace p521 := eq_true p521
             replace q521 := eq_true q521
             go_wp2_with (first | ((with_reducible refine gate_dst (N := 9) rfl ?_); refine be 9 #[.int .i64 0, .int .i64 0, .int .i64 0, .int .i64 0, .string (⟨#[]⟩ : ByteArray), .int .i64 0] 101 ?_; intro gb522 hg w35 hbox hb; have _ := bb (bk BK515) hb; have _ := bb (bk BK516) hb; have _ := bb (Mp.mb BK518) hb; have _ := bb (bk BK520) hb; have _ := bs hb; have _ := ra (hbox); have _ := bz (w0 := w) hg; have _ := bz (w0 := w) hg; have _ := bn hg (bk BK515); have _ := bm hg (bk BK515); have _ := bn hg (bk BK516); have _ := bm hg (bk BK516); have _ := Mp.mn hg (Mp.mb BK518); have _ := Mp.mm hg (Mp.mb BK518); have _ := bn hg (bk BK520); have _ := bm hg (bk BK520); clear BK515 BK516 BK518 BK520 HB; rename_i BK515 BK516 BK518 BK520 HB BK522 GW522 GE522 NB515_522 NB522_515 NB516_522 NB522_516 NB518_522 NB522_518 NB520_522 NB522_520; clear hb hbox hg; have hnb36 := NB522_515.out; have hnc36 := NB515_522.out; have hnb37 := NB522_516.out; have hnc37 := NB516_522.out; have hnb38 := NB522_518.out; have hnc38 := NB518_522.out; have hnb39 := NB522_520.out; have hnc39 := NB520_522.out; obtain ⟨hcz40_0, hcz40_1, hcz40_2, hcz40_3, hcz40_4, hcz40_5, hfz40_0, hfz40_1, hfz40_2, hfz40_3, hfz40_4, hfz40_5⟩ := zc6 BK522; have hnb41 := NB516_515.out; have hnc41 := NB515_516.out; have hnb42 := NB516_518.out; have hnc42 := NB518_516.out; have hnb43 := NB516_520.out; have hnc43 := NB520_516.out; obtain ⟨hcz44_0, hcz44_1, hfz44_0, hfz44_1⟩ := zc2 BK516; have hnb45 := NB520_515.out; have hnc45 := NB515_520.out; have hnb46 := NB520_518.out; have hnc46 := NB518_520.out; have hcz47_0 : w35.cell? ⟨gb520, 0, none⟩ = some (.int .i64 ((rd_T105 l0_0 x30_1).f0)) := (blk_cell BK520.out 0).trans rfl; have hcz47_1 : w35.cell? ⟨gb520, 1, none⟩ = some (.int .i64 ((rd_T105 l0_0 x30_1).f1)) := (blk_cell BK520.out 1).trans rfl; have hcz47_2 : w35.cell? ⟨gb520, 2, none⟩ = some (.slice (some ad521) ((rd_T105 l0_0 x30_1).f2).length c519_2) := (blk_cell BK520.out 2).trans rfl; have hfz47_0 := blk_frozen BK520.out 0; have hfz47_1 := blk_frozen BK520.out 1; have hfz47_2 := blk_frozen BK520.out 2) | ((with_reducible refine gate_dst (N := 10) rfl ?_); refine be 10 #[.int .i64 0, .int .i64 0, .int .i64 0, .int .i64 0, .int .i64 0, .int .i64 0] 95 ?_; intro gb523 hg w48 hbox hb; have _ := bb (bk BK515) hb; have _ := bb (bk BK516) hb; have _ := bb (Mp.mb BK518) hb; have _ := bb (bk BK520) hb; have _ := bb (o := .cells #[.int .i64 ((rd_T101 ((rd_T105 l0_0 x30_1).f2) x37_2).f0), .int .i64 ((rd_T101 ((rd_T105 l0_0 x30_1).f2) x37_2).f1), .int .i64 ((rd_T101 ((rd_T105 l0_0 x30_1).f2) x37_2).f2), .int .i64 ((rd_T101 ((rd_T105 l0_0 x30_1).f2) x37_2).f3), .string ((rd_T101 ((rd_T105 l0_0 x30_1).f2) x37_2).f4), .int .i64 ((rd_T101 ((rd_T105 l0_0 x30_1).f2) x37_2).f5)] 101 (0, 0)) (by (with_reducible repeat (first | refine blk_drewN ?_ _ | refine blk_drew ?_ | refine blk_alloc ?_ _)); refine blk_put (cs := #[.int .i64 ((rd_T101 ((rd_T105 l0_0 x30_1).f2) x37_2).f0), .int .i64 ((rd_T101 ((rd_T105 l0_0 x30_1).f2) x37_2).f1), .int .i64 ((rd_T101 ((rd_T105 l0_0 x30_1).f2) x37_2).f2), .int .i64 ((rd_T101 ((rd_T105 l0_0 x30_1).f2) x37_2).f3), .string ((rd_T101 ((rd_T105 l0_0 x30_1).f2) x37_2).f4), .int .i64 0]) ?_ 5 _ rfl; (with_reducible repeat (first | refine blk_drewN ?_ _ | refine blk_drew ?_ | refine blk_alloc ?_ _)); refine blk_put (cs := #[.int .i64 ((rd_T101 ((rd_T105 l0_0 x30_1).f2) x37_2).f0), .int .i64 ((rd_T101 ((rd_T105 l0_0 x30_1).f2) x37_2).f1), .int .i64 ((rd_T101 ((rd_T105 l0_0 x30_1).f2) x37_2).f2), .int .i64 ((rd_T101 ((rd_T105 l0_0 x30_1).f2) x37_2).f3), .string (⟨#[]⟩ : ByteArray), .int .i64 0]) ?_ 4 _ rfl; (with_reducible repeat (first | refine blk_drewN ?_ _ | refine blk_drew ?_ | refine blk_alloc ?_ _)); refine blk_put (cs := #[.int .i64 ((rd_T101 ((rd_T105 l0_0 x30_1).f2) x37_2).f0), .int .i64 ((rd_T101 ((rd_T105 l0_0 x30_1).f2) x37_2).f1), .int .i64 ((rd_T101 ((rd_T105 l0_0 x30_1).f2) x37_2).f2), .int .i64 0, .string (⟨#[]⟩ : ByteArray), .int .i64 0]) ?_ 3 _ rfl; (with_reducible repeat (first | refine blk_drewN ?_ _ | refine blk_drew ?_ | refine blk_alloc ?_ _)); refine blk_put (cs := #[.int .i64 ((rd_T101 ((rd_T105 l0_0 x30_1).f2) x37_2).f0), .int .i64 ((rd_T101 ((rd_T105 l0_0 x30_1).f2) x37_2).f1), .int .i64 0, .int .i64 0, .string (⟨#[]⟩ : ByteArray), .int .i64 0]) ?_ 2 _ rfl; (with_reducible repeat (first | refine blk_drewN ?_ _ | refine blk_drew ?_ | refine blk_alloc ?_ _)); refine blk_put (cs := #[.int .i64 ((rd_T101 ((rd_T105 l0_0 x30_1).f2) x37_2).f0), .int .i64 0, .int .i64 0, .int .i64 0, .string (⟨#[]⟩ : ByteArray), .int .i64 0]) ?_ 1 _ rfl; (with_reducible repeat (first | refine blk_drewN ?_ _ | refine blk_drew ?_ | refine blk_alloc ?_ _)); refine blk_put (cs := #[.int .i64 0, .int .i64 0, .int .i64 0, .int .i64 0, .string (⟨#[]⟩ : ByteArray), .int .i64 0]) ?_ 0 _ rfl; (with_reducible repeat (first | refine blk_drewN ?_ _ | refine blk_drew ?_ | refine blk_alloc ?_ _)); exact BK522.out) hb; have _ := bs hb; have _ := ra (hbox); have _ := bz (w0 := w) hg; have _ := bz (w0 := w) hg; have _ := bn hg (bk BK515); have _ := bm hg (bk BK515); have _ := bn hg (bk BK516); have _ := bm hg (bk BK516); have _ := Mp.mn hg (Mp.mb BK518); have _ := Mp.mm hg (Mp.mb BK518); have _ := bn hg (bk BK520); have _ := bm hg (bk BK520); have _ := ra ((by rw [hg]; exact Nat.ne_of_lt (blk_lt (g := gb522) (o := .cells #[.int .i64 ((rd_T101 ((rd_T105 l0_0 x30_1).f2) x37_2).f0), .int .i64 ((rd_T101 ((rd_T105 l0_0 x30_1).f2) x37_2).f1), .int .i64 ((rd_T101 ((rd_T105 l0_0 x30_1).f2) x37_2).f2), .int .i64 ((rd_T101 ((rd_T105 l0_0 x30_1).f2) x37_2).f3), .string ((rd_T101 ((rd_T105 l0_0 x30_1).f2) x37_2).f4), .int .i64 ((rd_T101 ((rd_T105 l0_0 x30_1).f2) x37_2).f5)] 101 (0, 0)) (by (with_reducible repeat (first | refine blk_drewN ?_ _ | refine blk_drew ?_ | refine blk_alloc ?_ _)); refine blk_put (cs := #[.int .i64 ((rd_T101 ((rd_T105 l0_0 x30_1).f2) x37_2).f0), .int .i64 ((rd_T101 ((rd_T105 l0_0 x30_1).f2) x37_2).f1), .int .i64 ((rd_T101 ((rd_T105 l0_0 x30_1).f2) x37_2).f2), .int .i64 ((rd_T101 ((rd_T105 l0_0 x30_1).f2) x37_2).f3), .string ((rd_T101 ((rd_T105 l0_0 x30_1).f2) x37_2).f4), .int .i64 0]) ?_ 5 _ rfl; (with_reducible repeat (first | refine blk_drewN ?_ _ | refine blk_drew ?_ | refine blk_alloc ?_ _)); refine blk_put (cs := #[.int .i64 ((rd_T101 ((rd_T105 l0_0 x30_1).f2) x37_2).f0), .int .i64 ((rd_T101 ((rd_T105 l0_0 x30_1).f2) x37_2).f1), .int .i64 ((rd_T101 ((rd_T105 l0_0 x30_1).f2) x37_2).f2), .int .i64 ((rd_T101 ((rd_T105 l0_0 x30_1).f2) x37_2).f3), .string (⟨#[]⟩ : ByteArray), .int .i64 0]) ?_ 4 _ rfl; (with_reducible repeat (first | refine blk_drewN ?_ _ | refine blk_drew ?_ | refine blk_alloc ?_ _)); refine blk_put (cs := #[.int .i64 ((rd_T101 ((rd_T105 l0_0 x30_1).f2) x37_2).f0), .int .i64 ((rd_T101 ((rd_T105 l0_0 x30_1).f2) x37_2).f1), .int .i64 ((rd_T101 ((rd_T105 l0_0 x30_1).f2) x37_2).f2), .int .i64 0, .string (⟨#[]⟩ : ByteArray), .int .i64 0]) ?_ 3 _ rfl; (with_reducible repeat (first | refine blk_drewN ?_ _ | refine blk_drew ?_ | refine blk_alloc ?_ _)); refine blk_put (cs := #[.int .i64 ((rd_T101 ((rd_T105 l0_0 x30_1).f2) x37_2).f0), .int .i64 ((rd_T101 ((rd_T105 l0_0 x30_1).f2) x37_2).f1), .int .i64 0, .int .i64 0, .string (⟨#[]⟩ : ByteArray), .int .i64 0]) ?_ 2 _ rfl; (with_reducible repeat (first | refine blk_drewN ?_ _ | refine blk_drew ?_ | refine blk_alloc ?_ _)); refine blk_put (cs := #[.int .i64 ((rd_T101 ((rd_T105 l0_0 x30_1).f2) x37_2).f0), .int .i64 0, .int .i64 0, .int .i64 0, .string (⟨#[]⟩ : ByteArray), .int .i64 0]) ?_ 1 _ rfl; (with_reducible repeat (first | refine blk_drewN ?_ _ | refine blk_drew ?_ | refine blk_alloc ?_ _)); refine blk_put (cs := #[.int .i64 0, .int .i64 0, .int .i64 0, .int .i64 0, .string (⟨#[]⟩ : ByteArray), .int .i64 0]) ?_ 0 _ rfl; (with_reducible repeat (first | refine blk_drewN ?_ _ | refine blk_drew ?_ | refine blk_alloc ?_ _)); exact BK522.out)) : gb522 ≠ gb523)); have _ := ra ((by rw [hg]; exact Nat.ne_of_gt (blk_lt (g := gb522) (o := .cells #[.int .i64 ((rd_T101 ((rd_T105 l0_0 x30_1).f2) x37_2).f0), .int .i64 ((rd_T101 ((rd_T105 l0_0 x30_1).f2) x37_2).f1), .int .i64 ((rd_T101 ((rd_T105 l0_0 x30_1).f2) x37_2).f2), .int .i64 ((rd_T101 ((rd_T105 l0_0 x30_1).f2) x37_2).f3), .string ((rd_T101 ((rd_T105 l0_0 x30_1).f2) x37_2).f4), .int .i64 ((rd_T101 ((rd_T105 l0_0 x30_1).f2) x37_2).f5)] 101 (0, 0)) (by (with_reducible repeat (first | refine blk_drewN ?_ _ | refine blk_drew ?_ | refine blk_alloc ?_ _)); refine blk_put (cs := #[.int .i64 ((rd_T101 ((rd_T105 l0_0 x30_1).f2) x37_2).f0), .int .i64 ((rd_T101 ((rd_T105 l0_0 x30_1).f2) x37_2).f1), .int .i64 ((rd_T101 ((rd_T105 l0_0 x30_1).f2) x37_2).f2), .int .i64 ((rd_T101 ((rd_T105 l0_0 x30_1).f2) x37_2).f3), .string ((rd_T101 ((rd_T105 l0_0 x30_1).f2) x37_2).f4), .int .i64 0]) ?_ 5 _ rfl; (with_reducible repeat (first | refine blk_drewN ?_ _ | refine blk_drew ?_ | refine blk_alloc ?_ _)); refine blk_put (cs := #[.int .i64 ((rd_T101 ((rd_T105 l0_0 x30_1).f2) x37_2).f0), .int .i64 ((rd_T101 ((rd_T105 l0_0 x30_1).f2) x37_2).f1), .int .i64 ((rd_T101 ((rd_T105 l0_0 x30_1).f2) x37_2).f2), .int .i64 ((rd_T101 ((rd_T105 l0_0 x30_1).f2) x37_2).f3), .string (⟨#[]⟩ : ByteArray), .int .i64 0]) ?_ 4 _ rfl; (with_reducible repeat (first | refine blk_drewN ?_ _ | refine blk_drew ?_ | refine blk_alloc ?_ _)); refine blk_put (cs := #[.int .i64 ((rd_T101 ((rd_T105 l0_0 x30_1).f2) x37_2).f0), .int .i64 ((rd_T101 ((rd_T105 l0_0 x30_1).f2) x37_2).f1), .int .i64 ((rd_T101 ((rd_T105 l0_0 x30_1).f2) x37_2).f2), .int .i64 0, .string (⟨#[]⟩ : ByteArray), .int .i64 0]) ?_ 3 _ rfl; (with_reducible repeat (first | refine blk_drewN ?_ _ | refine blk_drew ?_ | refine blk_alloc ?_ _)); refine blk_put (cs := #[.int .i64 ((rd_T101 ((rd_T105 l0_0 x30_1).f2) x37_2).f0), .int .i64 ((rd_T101 ((rd_T105 l0_0 x30_1).f2) x37_2).f1), .int .i64 0, .int .i64 0, .string (⟨#[]⟩ : ByteArray), .int .i64 0]) ?_ 2 _ rfl; (with_reducible repeat (first | refine blk_drewN ?_ _ | refine blk_drew ?_ | refine blk_alloc ?_ _)); refine blk_put (cs := #[.int .i64 ((rd_T101 ((rd_T105 l0_0 x30_1).f2) x37_2).f0), .int .i64 0, .int .i64 0, .int .i64 0, .string (⟨#[]⟩ : ByteArray), .int .i64 0]) ?_ 1 _ rfl; (with_reducible repeat (first | refine blk_drewN ?_ _ | refine blk_drew ?_ | refine blk_alloc ?_ _)); refine blk_put (cs := #[.int .i64 0, .int .i64 0, .int .i64 0, .int .i64 0, .string (⟨#[]⟩ : ByteArray), .int .i64 0]) ?_ 0 _ rfl; (with_reducible repeat (first | refine blk_drewN ?_ _ | refine blk_drew ?_ | refine blk_alloc ?_ _)); exact BK522.out)) : gb523 ≠ gb522)); clear BK515 BK516 BK518 BK520 BK522 HB; rename_i BK515 BK516 BK518 BK520 BK522 HB BK523 GW523 GE523 NB515_523 NB523_515 NB516_523 NB523_516 NB518_523 NB523_518 NB520_523 NB523_520 NB522_523 NB523_522; clear hb hbox hg; have hnb49 := NB523_515.out; have hnc49 := NB515_523.out; have hnb50 := NB523_516.out; have hnc50 := NB516_523.out; have hnb51 := NB523_518.out; have hnc51 := NB518_523.out; have hnb52 := NB523_520.out; have hnc52 := NB520_523.out; have hnb53 := NB523_522.out; have hnc53 := NB522_523.out; obtain ⟨hcz54_0, hcz54_1, hcz54_2, hcz54_3, hcz54_4, hcz54_5, hfz54_0, hfz54_1, hfz54_2, hfz54_3, hfz54_4, hfz54_5⟩ := zc6 BK523; obtain ⟨hcz55_0, hcz55_1, hfz55_0, hfz55_1⟩ := zc2 BK516))
             go_loopg [62] k2 (fun kq v62 w' => ∃ (x62_3 : Int) (x519000_3 : Mp.MS), v62 = .int .i64 x62_3 ∧ Aside0 (impl_ProbeAsk.l2 kq l0_0 (l0_0.length : Int) x30_1 ((rd_T105 l0_0 x30_1).f2) (((rd_T105 l0_0 x30_1).f2).length : Int) x37_2 l1_1 (l1_1.length : Int) x62_3 a1_0 l1_1 x519000_3 ((rd_T105 l0_0 x30_1).f0) ((rd_T105 l0_0 x30_1).f1) ((rd_T105 l0_0 x30_1).f2) ((rd_T101 ((rd_T105 l0_0 x30_1).f2) x37_2).f0) ((rd_T101 ((rd_T105 l0_0 x30_1).f2) x37_2).f1) ((rd_T101 ((rd_T105 l0_0 x30_1).f2) x37_2).f2) ((rd_T101 ((rd_T105 l0_0 x30_1).f2) x37_2).f3) ((rd_T101 ((rd_T105 l0_0 x30_1).f2) x37_2).f4) ((rd_T101 ((rd_T105 l0_0 x30_1).f2) x37_2).f5) ((rd_T105 l0_0 x30_1).f0) ((rd_T105 l0_0 x30_1).f1) ((rd_T101 ((rd_T105 l0_0 x30_1).f2) x37_2).f2) ((rd_T101 ((rd_T105 l0_0 x30_1).f2) x37_2).f3) ((rd_T101 ((rd_T105 l0_0 x30_1).f2) x37_2).f0) ((rd_T101 ((rd_T105 l0_0 x30_1).f2) x37_2).f1) = some r) ∧ Aside0 (kq ≤ k2) ∧ Aside0 (w'.heap[gb515]? = some (.cells #[(.slice (some ad519) l0_0.length c0_0)] 65 (0, 0))) ∧ Aside0 (w'.heap[gb516]? = some (.cells #[.string a1_0, (.slice A1_1 l1_1.length c1_1)] 40 (0, 0))) ∧ Aside0 (w'.heap[gb518]? = some (Mp.mobj x519000_3)) ∧ Aside0 (w'.heap[gb520]? = some (.cells #[.int .i64 ((rd_T105 l0_0 x30_1).f0), .int .i64 ((rd_T105 l0_0 x30_1).f1), (.slice (some ad521) ((rd_T105 l0_0 x30_1).f2).length c519_2)] 105 (0, 0))) ∧ Aside0 (w'.heap[gb522]? = some (.cells #[.int .i64 ((rd_T101 ((rd_T105 l0_0 x30_1).f2) x37_2).f0), .int .i64 ((rd_T101 ((rd_T105 l0_0 x30_1).f2) x37_2).f1), .int .i64 ((rd_T101 ((rd_T105 l0_0 x30_1).f2) x37_2).f2), .int .i64 ((rd_T101 ((rd_T105 l0_0 x30_1).f2) x37_2).f3), .string ((rd_T101 ((rd_T105 l0_0 x30_1).f2) x37_2).f4), .int .i64 ((rd_T101 ((rd_T105 l0_0 x30_1).f2) x37_2).f5)] 101 (0, 0))) ∧ Aside0 (w'.heap[gb523]? = some (.cells #[.int .i64 ((rd_T105 l0_0 x30_1).f0), .int .i64 ((rd_T105 l0_0 x30_1).f1), .int .i64 ((rd_T101 ((rd_T105 l0_0 x30_1).f2) x37_2).f2), .int .i64 ((rd_T101 ((rd_T105 l0_0 x30_1).f2) x37_2).f3), .int .i64 ((rd_T101 ((rd_T105 l0_0 x30_1).f2) x37_2).f0), .int .i64 ((rd_T101 ((rd_T105 l0_0 x30_1).f2) x37_2).f1)] 95 (0, 0))) ∧ Aside0 (Below w.heap.size w w'))
             case atStart => exact ⟨(0), (x519000_2), rs, H', ⟨Nat.le_refl _⟩, ⟨bk BK515⟩, ⟨bk BK516⟩, ⟨Mp.mb BK518⟩, ⟨bk BK520⟩, ⟨bk BK522⟩, ⟨by (with_reducible repeat (first | refine blk_drewN ?_ _ | refine blk_drew ?_ | refine blk_alloc ?_ _)); refine blk_put (cs := #[.int .i64 ((rd_T105 l0_0 x30_1).f0), .int .i64 ((rd_T105 l0_0 x30_1).f1), .int .i64 ((rd_T101 ((rd_T105 l0_0 x30_1).f2) x37_2).f2), .int .i64 ((rd_T101 ((rd_T105 l0_0 x30_1).f2) x37_2).f3), .int .i64 ((rd_T101 ((rd_T105 l0_0 x30_1).f2) x37_2).f0), .int .i64 0]) ?_ 5 _ rfl; (with_reducible repeat (first | refine blk_drewN ?_ _ | refine blk_drew ?_ | refine blk_alloc ?_ _)); refine blk_put (cs := #[.int .i64 ((rd_T105 l0_0 x30_1).f0), .int .i64 ((rd_T105 l0_0 x30_1).f1), .int .i64 ((rd_T101 ((rd_T105 l0_0 x30_1).f2) x37_2).f2), .int .i64 ((rd_T101 ((rd_T105 l0_0 x30_1).f2) x37_2).f3), .int .i64 0, .int .i64 0]) ?_ 4 _ rfl; (with_reducible repeat (first | refine blk_drewN ?_ _ | refine blk_drew ?_ | refine blk_alloc ?_ _)); refine blk_put (cs := #[.int .i64 ((rd_T105 l0_0 x30_1).f0), .int .i64 ((rd_T105 l0_0 x30_1).f1), .int .i64 ((rd_T101 ((rd_T105 l0_0 x30_1).f2) x37_2).f2), .int .i64 0, .int .i64 0, .int .i64 0]) ?_ 3 _ rfl; (with_reducible repeat (first | refine blk_drewN ?_ _ | refine blk_drew ?_ | refine blk_alloc ?_ _)); refine blk_put (cs := #[.int .i64 ((rd_T105 l0_0 x30_1).f0), .int .i64 ((rd_T105 l0_0 x30_1).f1), .int .i64 0, .int .i64 0, .int .i64 0, .int .i64 0]) ?_ 2 _ rfl; (with_reducible repeat (first | refine blk_drewN ?_ _ | refine blk_drew ?_ | refine blk_alloc ?_ _)); refine blk_put (cs := #[.int .i64 ((rd_T105 l0_0 x30_1).f0), .int .i64 0, .int .i64 0, .int .i64 0, .int .i64 0, .int .i64 0]) ?_ 1 _ rfl; (with_reducible repeat (first | refine blk_drewN ?_ _ | refine blk_drew ?_ | refine blk_alloc ?_ _)); refine blk_put (cs := #[.int .i64 0, .int .i64 0, .int .i64 0, .int .i64 0, .int .i64 0, .int .i64 0]) ?_ 0 _ rfl; (with_reducible repeat (first | refine blk_drewN ?_ _ | refine blk_drew ?_ | refine blk_alloc ?_ _)); exact BK523.out⟩, ⟨bq⟩⟩
             case round =>
              clear H'
              try clear c4
              try clear c13
              try clear c13b0
              try clear c14
              try clear c14b0
              try clear c15
              try clear c15b0
              try clear c21
              try clear c21b0
              try clear c22
              try clear c22b0
              try clear c23
              try clear c23b0
              try clear c24
              try clear c24b0
              try clear c24b1
              try clear hcz12_0
              try clear hcz20_0
              try clear hcz20_1
              try clear hcz20_2
              try clear hcz30_0
              try clear hcz30_1
              try clear hcz30_2
              try clear hcz30_3
              try clear hcz30_4
              try clear hcz30_5
              try clear hcz34_0
              try clear hcz34_1
              try clear hcz40_0
              try clear hcz40_1
              try clear hcz40_2
              try clear hcz40_3
              try clear hcz40_4
              try clear hcz40_5
              try clear hcz44_0
              try clear hcz44_1
              try clear hcz47_0
              try clear hcz47_1
              try clear hcz47_2
              try clear hcz54_0
              try clear hcz54_1
              try clear hcz54_2
              try clear hcz54_3
              try clear hcz54_4
              try clear hcz54_5
              try clear hcz55_0
              try clear hcz55_1
              try clear hcz8_0
              try clear hcz8_1
              try clear hfz12_0
              try clear hfz20_0
              try clear hfz20_1
              try clear hfz20_2
              try clear hfz30_0
              try clear hfz30_1
              try clear hfz30_2
              try clear hfz30_3
              try clear hfz30_4
              try clear hfz30_5
              try clear hfz34_0
              try clear hfz34_1
              try clear hfz40_0
              try clear hfz40_1
              try clear hfz40_2
              try clear hfz40_3
              try clear hfz40_4
              try clear hfz40_5
              try clear hfz44_0
              try clear hfz44_1
              try clear hfz47_0
              try clear hfz47_1
              try clear hfz47_2
              try clear hfz54_0
              try clear hfz54_1
              try clear hfz54_2
              try clear hfz54_3
              try clear hfz54_4
              try clear hfz54_5
              try clear hfz55_0
              try clear hfz55_1
              try clear hfz8_0
              try clear hfz8_1
              try clear hx519_0
              try clear hx519_1
              try clear hx519_2
              try clear hx521_0
              try clear hx521_1
              try clear hx521_2
              try clear hx521_3
              try clear hx521_4
              try clear hx521_5
              try clear p519
              try clear p521
              try clear q519
              try clear q521
              obtain ⟨x62_3, x519000_3, rfl, HA, HK3, BK515, BK516, BK518, BK520, BK522, BK523, HB⟩ := hrel
              cases gk with
              | zero => exact absurd HA.out (by simp [impl_ProbeAsk.l2])
              | succ k3 =>
               have H := HA.out
               clear HA
               simp only [impl_ProbeAsk.l2] at H
               by_cases c56 : x62_3 < (l1_1.length : Int)
               ·rw [if_pos c56] at H
                have c56b0 : decide (x62_3 < (l1_1.length : Int)) = true := decide_eq_true c56
                clear c56
                by_cases c57 : 0 ≤ x62_3
                ·rw [if_pos c57] at H
                 have c57b0 : decide (0 ≤ x62_3) = true := decide_eq_true c57
                 clear c57
                 by_cases c58 : x62_3 < (l1_1.length : Int)
                 ·rw [if_pos c58] at H
                  have c58b0 : decide (x62_3 < (l1_1.length : Int)) = true := decide_eq_true c58
                  clear c58
                  obtain ⟨⟨t526, t527⟩, A59, H⟩ := bo H
                  try dsimp only at H
                  by_cases c60 : t527 = true
                  ·subst c60
                   replace H := it H rfl
                   by_cases c61 : Mp.mhas x519000_3 ((rd_T101 ((rd_T105 l0_0 x30_1).f2) x37_2).f4) = true
                   ·rw [if_pos c61] at H
                    have c61b0 : Mp.mhas x519000_3 ((rd_T101 ((rd_T105 l0_0 x30_1).f2) x37_2).f4) = true := c61
                    clear c61
                    obtain ⟨t530, A62, H⟩ := bo H
                    by_cases c63 : t530 = true
                    ·subst c63
                     replace H := it H rfl
                     have H' := Aside0.mk H
                     clear H
                     have p524 : 0 ≤ (x62_3 : Int) := od
                     have q524 : x62_3 < (l1_1.length : Int) := od
                     obtain ⟨ad524, e524, hx524_0, hx524_1, hx524_2, hx524_3, hx524_4, hx524_5⟩ := at_T95 HR1_1.out x62_3 p524 q524
                     cases e524
                     replace hx524_0 := hc HB hx524_0
                     replace hx524_1 := hc HB hx524_1
                     replace hx524_2 := hc HB hx524_2
                     replace hx524_3 := hc HB hx524_3
                     replace hx524_4 := hc HB hx524_4
                     replace hx524_5 := hc HB hx524_5
                     replace p524 := eq_true p524
                     replace q524 := eq_true q524
                     go_wp2_with (first | ((with_reducible refine gate_dst (N := 12) rfl ?_); refine be 12 #[.int .i64 0, .int .i64 0, .int .i64 0, .int .i64 0, .int .i64 0, .int .i64 0] 95 ?_; intro gb525 hg w64 hbox hb; have _ := bb (bk BK515) hb; have _ := bb (bk BK516) hb; have _ := bb (Mp.mb BK518) hb; have _ := bb (bk BK520) hb; have _ := bb (bk BK522) hb; have _ := bb (bk BK523) hb; have _ := bs hb; have _ := ra (hbox); have _ := bz (w0 := w) hg; have _ := bz (w0 := w) hg; have _ := bn hg (bk BK515); have _ := bm hg (bk BK515); have _ := bn hg (bk BK516); have _ := bm hg (bk BK516); have _ := Mp.mn hg (Mp.mb BK518); have _ := Mp.mm hg (Mp.mb BK518); have _ := bn hg (bk BK520); have _ := bm hg (bk BK520); have _ := bn hg (bk BK522); have _ := bm hg (bk BK522); have _ := bn hg (bk BK523); have _ := bm hg (bk BK523); clear BK515 BK516 BK518 BK520 BK522 BK523 HB; rename_i BK515 BK516 BK518 BK520 BK522 BK523 HB BK525 GW525 GE525 NB515_525 NB525_515 NB516_525 NB525_516 NB518_525 NB525_518 NB520_525 NB525_520 NB522_525 NB525_522 NB523_525 NB525_523; clear hb hbox hg; have hnb65 := NB525_515.out; have hnc65 := NB515_525.out; have hnb66 := NB525_516.out; have hnc66 := NB516_525.out; have hnb67 := NB525_518.out; have hnc67 := NB518_525.out; have hnb68 := NB525_520.out; have hnc68 := NB520_525.out; have hnb69 := NB525_522.out; have hnc69 := NB522_525.out; have hnb70 := NB525_523.out; have hnc70 := NB523_525.out; obtain ⟨hcz71_0, hcz71_1, hcz71_2, hcz71_3, hcz71_4, hcz71_5, hfz71_0, hfz71_1, hfz71_2, hfz71_3, hfz71_4, hfz71_5⟩ := zc6 BK525; have hnb72 := NB523_515.out; have hnc72 := NB515_523.out; have hnb73 := NB523_516.out; have hnc73 := NB516_523.out; have hnb74 := NB523_518.out; have hnc74 := NB518_523.out; have hnb75 := NB523_520.out; have hnc75 := NB520_523.out; have hnb76 := NB523_522.out; have hnc76 := NB522_523.out; obtain ⟨hcz77_0, hcz77_1, hcz77_2, hcz77_3, hcz77_4, hcz77_5, hfz77_0, hfz77_1, hfz77_2, hfz77_3, hfz77_4, hfz77_5⟩ := zc6 BK523) | ((with_reducible refine gate_callee (f := 76) rfl ?_); refine gl (some 70) Try.func76 #[.agg #[.int .i64 ((rd_T95 l1_1 x62_3).f0), .int .i64 ((rd_T95 l1_1 x62_3).f1), .int .i64 ((rd_T95 l1_1 x62_3).f2), .int .i64 ((rd_T95 l1_1 x62_3).f3), .int .i64 ((rd_T95 l1_1 x62_3).f4), .int .i64 ((rd_T95 l1_1 x62_3).f5)], .agg #[.int .i64 ((rd_T105 l0_0 x30_1).f0), .int .i64 ((rd_T105 l0_0 x30_1).f1), .int .i64 ((rd_T101 ((rd_T105 l0_0 x30_1).f2) x37_2).f2), .int .i64 ((rd_T101 ((rd_T105 l0_0 x30_1).f2) x37_2).f3), .int .i64 ((rd_T101 ((rd_T105 l0_0 x30_1).f2) x37_2).f0), .int .i64 ((rd_T101 ((rd_T105 l0_0 x30_1).f2) x37_2).f1)]] ?_; (with_reducible refine (impl_ProbeClose.calls k3 ((rd_T95 l1_1 x62_3).f0) ((rd_T95 l1_1 x62_3).f1) ((rd_T95 l1_1 x62_3).f2) ((rd_T95 l1_1 x62_3).f3) ((rd_T95 l1_1 x62_3).f4) ((rd_T95 l1_1 x62_3).f5) ((rd_T105 l0_0 x30_1).f0) ((rd_T105 l0_0 x30_1).f1) ((rd_T101 ((rd_T105 l0_0 x30_1).f2) x37_2).f2) ((rd_T101 ((rd_T105 l0_0 x30_1).f2) x37_2).f3) ((rd_T101 ((rd_T105 l0_0 x30_1).f2) x37_2).f0) ((rd_T101 ((rd_T105 l0_0 x30_1).f2) x37_2).f1) t526 true _ A59.out).mono ?_); rintro e w78 ⟨rfl, hb⟩; refine ⟨_, rfl, ?_⟩; have _ := bb (bk BK515) hb; have _ := bb (bk BK516) hb; have _ := bb (Mp.mb BK518) hb; have _ := bb (bk BK520) hb; have _ := bb (bk BK522) hb; have _ := bb (bk BK523) hb; have _ := bb (o := .cells #[.int .i64 ((rd_T95 l1_1 x62_3).f0), .int .i64 ((rd_T95 l1_1 x62_3).f1), .int .i64 ((rd_T95 l1_1 x62_3).f2), .int .i64 ((rd_T95 l1_1 x62_3).f3), .int .i64 ((rd_T95 l1_1 x62_3).f4), .int .i64 ((rd_T95 l1_1 x62_3).f5)] 95 (0, 0)) (bp BK525) hb; have _ := bs hb; clear BK515 BK516 BK518 BK520 BK522 BK523 BK525 HB; rename_i BK515 BK516 BK518 BK520 BK522 BK523 BK525 HB; (try clear hb); (try clear hb2); (try clear hk); (try clear hi); have hnb79 := NB516_515.out; have hnc79 := NB515_516.out; have hnb80 := NB516_518.out; have hnc80 := NB518_516.out; have hnb81 := NB516_520.out; have hnc81 := NB520_516.out; have hnb82 := NB516_522.out; have hnc82 := NB522_516.out; obtain ⟨hcz83_0, hcz83_1, hfz83_0, hfz83_1⟩ := zc2 BK516; have hnb84 := NB522_515.out; have hnc84 := NB515_522.out; have hnb85 := NB522_518.out; have hnc85 := NB518_522.out; have hnb86 := NB522_520.out; have hnc86 := NB520_522.out; obtain ⟨hcz87_0, hcz87_1, hcz87_2, hcz87_3, hcz87_4, hcz87_5, hfz87_0, hfz87_1, hfz87_2, hfz87_3, hfz87_4, hfz87_5⟩ := zc6 BK522) | ((with_reducible refine gate_dst (N := 15) rfl ?_); refine be 15 #[.string (⟨#[]⟩ : ByteArray), .string (⟨#[]⟩ : ByteArray), .int .i64 0, .int .i64 0, .int .i64 0] 49 ?_; intro gb528 hg w88 hbox hb; have _ := bb (bk BK515) hb; have _ := bb (bk BK516) hb; have _ := bb (Mp.mb BK518) hb; have _ := bb (bk BK520) hb; have _ := bb (bk BK522) hb; have _ := bb (bk BK523) hb; have _ := bb (bk BK525) hb; have _ := bs hb; have _ := ra (hbox); have _ := bz (w0 := w) hg; have _ := bz (w0 := w) hg; have _ := bn hg (bk BK515); have _ := bm hg (bk BK515); have _ := bn hg (bk BK516); have _ := bm hg (bk BK516); have _ := Mp.mn hg (Mp.mb BK518); have _ := Mp.mm hg (Mp.mb BK518); have _ := bn hg (bk BK520); have _ := bm hg (bk BK520); have _ := bn hg (bk BK522); have _ := bm hg (bk BK522); have _ := bn hg (bk BK523); have _ := bm hg (bk BK523); have _ := bn hg (bk BK525); have _ := bm hg (bk BK525); clear BK515 BK516 BK518 BK520 BK522 BK523 BK525 HB; rename_i BK515 BK516 BK518 BK520 BK522 BK523 BK525 HB BK528 GW528 GE528 NB515_528 NB528_515 NB516_528 NB528_516 NB518_528 NB528_518 NB520_528 NB528_520 NB522_528 NB528_522 NB523_528 NB528_523 NB525_528 NB528_525; clear hb hbox hg; have hnb89 := NB528_515.out; have hnc89 := NB515_528.out; have hnb90 := NB528_516.out; have hnc90 := NB516_528.out; have hnb91 := NB528_518.out; have hnc91 := NB518_528.out; have hnb92 := NB528_520.out; have hnc92 := NB520_528.out; have hnb93 := NB528_522.out; have hnc93 := NB522_528.out; have hnb94 := NB528_523.out; have hnc94 := NB523_528.out; have hnb95 := NB528_525.out; have hnc95 := NB525_528.out; obtain ⟨hcz96_0, hcz96_1, hcz96_2, hcz96_3, hcz96_4, hfz96_0, hfz96_1, hfz96_2, hfz96_3, hfz96_4⟩ := zc5 BK528; obtain ⟨hcz97_0, hcz97_1, hcz97_2, hcz97_3, hcz97_4, hcz97_5, hfz97_0, hfz97_1, hfz97_2, hfz97_3, hfz97_4, hfz97_5⟩ := zc6 BK522) | ((with_reducible refine gate_dst (N := 88) rfl ?_); refine Mp.lookA_event (M := x519000_3) ?hgm98 ?omm98 ?oxm98 ?hom98 (((rd_T101 ((rd_T105 l0_0 x30_1).f2) x37_2).f4)) ?hmm98 ?hxm98 (Mp.mb BK518) ?_; (case hgm98 => rfl); (case hom98 => rfl); (case hmm98 => rfl); (case hxm98 => first | rfl | (go_simp; done) | (go_simp; rfl))) | ((with_reducible refine gate_dst (N := 16) rfl ?_); refine be 16 #[.string (⟨#[]⟩ : ByteArray), .string (⟨#[]⟩ : ByteArray), .int .i64 0, .int .i64 0, .int .i64 0] 49 ?_; intro gb529 hg w99 hbox hb; have _ := bb (bk BK515) hb; have _ := bb (bk BK516) hb; have _ := bb (Mp.mb BK518) hb; have _ := bb (bk BK520) hb; have _ := bb (bk BK522) hb; have _ := bb (bk BK523) hb; have _ := bb (bk BK525) hb; have _ := bb (o := .cells #[.string a1_0, .string ((rd_T101 ((rd_T105 l0_0 x30_1).f2) x37_2).f4), .int .i64 t526, .int .i64 x62_3, .int .i64 ((rd_T101 ((rd_T105 l0_0 x30_1).f2) x37_2).f5)] 49 (0, 0)) (by (with_reducible repeat (first | refine blk_drewN ?_ _ | refine blk_drew ?_ | refine blk_alloc ?_ _)); refine blk_put (cs := #[.string a1_0, .string ((rd_T101 ((rd_T105 l0_0 x30_1).f2) x37_2).f4), .int .i64 t526, .int .i64 x62_3, .int .i64 0]) ?_ 4 _ rfl; (with_reducible repeat (first | refine blk_drewN ?_ _ | refine blk_drew ?_ | refine blk_alloc ?_ _)); refine blk_put (cs := #[.string a1_0, .string ((rd_T101 ((rd_T105 l0_0 x30_1).f2) x37_2).f4), .int .i64 t526, .int .i64 0, .int .i64 0]) ?_ 3 _ rfl; (with_reducible repeat (first | refine blk_drewN ?_ _ | refine blk_drew ?_ | refine blk_alloc ?_ _)); refine blk_put (cs := #[.string a1_0, .string ((rd_T101 ((rd_T105 l0_0 x30_1).f2) x37_2).f4), .int .i64 0, .int .i64 0, .int .i64 0]) ?_ 2 _ rfl; (with_reducible repeat (first | refine blk_drewN ?_ _ | refine blk_drew ?_ | refine blk_alloc ?_ _)); refine blk_put (cs := #[.string a1_0, .string (⟨#[]⟩ : ByteArray), .int .i64 0, .int .i64 0, .int .i64 0]) ?_ 1 _ rfl; (with_reducible repeat (first | refine blk_drewN ?_ _ | refine blk_drew ?_ | refine blk_alloc ?_ _)); refine blk_put (cs := #[.string (⟨#[]⟩ : ByteArray), .string (⟨#[]⟩ : ByteArray), .int .i64 0, .int .i64 0, .int .i64 0]) ?_ 0 _ rfl; (with_reducible repeat (first | refine blk_drewN ?_ _ | refine blk_drew ?_ | refine blk_alloc ?_ _)); exact BK528.out) hb; have _ := bs hb; have _ := ra (hbox); have _ := bz (w0 := w) hg; have _ := bz (w0 := w) hg; have _ := bn hg (bk BK515); have _ := bm hg (bk BK515); have _ := bn hg (bk BK516); have _ := bm hg (bk BK516); have _ := Mp.mn hg (Mp.mb BK518); have _ := Mp.mm hg (Mp.mb BK518); have _ := bn hg (bk BK520); have _ := bm hg (bk BK520); have _ := bn hg (bk BK522); have _ := bm hg (bk BK522); have _ := bn hg (bk BK523); have _ := bm hg (bk BK523); have _ := bn hg (bk BK525); have _ := bm hg (bk BK525); have _ := ra ((by rw [hg]; exact Nat.ne_of_lt (blk_lt (g := gb528) (o := .cells #[.string a1_0, .string ((rd_T101 ((rd_T105 l0_0 x30_1).f2) x37_2).f4), .int .i64 t526, .int .i64 x62_3, .int .i64 ((rd_T101 ((rd_T105 l0_0 x30_1).f2) x37_2).f5)] 49 (0, 0)) (by (with_reducible repeat (first | refine blk_drewN ?_ _ | refine blk_drew ?_ | refine blk_alloc ?_ _)); refine blk_put (cs := #[.string a1_0, .string ((rd_T101 ((rd_T105 l0_0 x30_1).f2) x37_2).f4), .int .i64 t526, .int .i64 x62_3, .int .i64 0]) ?_ 4 _ rfl; (with_reducible repeat (first | refine blk_drewN ?_ _ | refine blk_drew ?_ | refine blk_alloc ?_ _)); refine blk_put (cs := #[.string a1_0, .string ((rd_T101 ((rd_T105 l0_0 x30_1).f2) x37_2).f4), .int .i64 t526, .int .i64 0, .int .i64 0]) ?_ 3 _ rfl; (with_reducible repeat (first | refine blk_drewN ?_ _ | refine blk_drew ?_ | refine blk_alloc ?_ _)); refine blk_put (cs := #[.string a1_0, .string ((rd_T101 ((rd_T105 l0_0 x30_1).f2) x37_2).f4), .int .i64 0, .int .i64 0, .int .i64 0]) ?_ 2 _ rfl; (with_reducible repeat (first | refine blk_drewN ?_ _ | refine blk_drew ?_ | refine blk_alloc ?_ _)); refine blk_put (cs := #[.string a1_0, .string (⟨#[]⟩ : ByteArray), .int .i64 0, .int .i64 0, .int .i64 0]) ?_ 1 _ rfl; (with_reducible repeat (first | refine blk_drewN ?_ _ | refine blk_drew ?_ | refine blk_alloc ?_ _)); refine blk_put (cs := #[.string (⟨#[]⟩ : ByteArray), .string (⟨#[]⟩ : ByteArray), .int .i64 0, .int .i64 0, .int .i64 0]) ?_ 0 _ rfl; (with_reducible repeat (first | refine blk_drewN ?_ _ | refine blk_drew ?_ | refine blk_alloc ?_ _)); exact BK528.out)) : gb528 ≠ gb529)); have _ := ra ((by rw [hg]; exact Nat.ne_of_gt (blk_lt (g := gb528) (o := .cells #[.string a1_0, .string ((rd_T101 ((rd_T105 l0_0 x30_1).f2) x37_2).f4), .int .i64 t526, .int .i64 x62_3, .int .i64 ((rd_T101 ((rd_T105 l0_0 x30_1).f2) x37_2).f5)] 49 (0, 0)) (by (with_reducible repeat (first | refine blk_drewN ?_ _ | refine blk_drew ?_ | refine blk_alloc ?_ _)); refine blk_put (cs := #[.string a1_0, .string ((rd_T101 ((rd_T105 l0_0 x30_1).f2) x37_2).f4), .int .i64 t526, .int .i64 x62_3, .int .i64 0]) ?_ 4 _ rfl; (with_reducible repeat (first | refine blk_drewN ?_ _ | refine blk_drew ?_ | refine blk_alloc ?_ _)); refine blk_put (cs := #[.string a1_0, .string ((rd_T101 ((rd_T105 l0_0 x30_1).f2) x37_2).f4), .int .i64 t526, .int .i64 0, .int .i64 0]) ?_ 3 _ rfl; (with_reducible repeat (first | refine blk_drewN ?_ _ | refine blk_drew ?_ | refine blk_alloc ?_ _)); refine blk_put (cs := #[.string a1_0, .string ((rd_T101 ((rd_T105 l0_0 x30_1).f2) x37_2).f4), .int .i64 0, .int .i64 0, .int .i64 0]) ?_ 2 _ rfl; (with_reducible repeat (first | refine blk_drewN ?_ _ | refine blk_drew ?_ | refine blk_alloc ?_ _)); refine blk_put (cs := #[.string a1_0, .string (⟨#[]⟩ : ByteArray), .int .i64 0, .int .i64 0, .int .i64 0]) ?_ 1 _ rfl; (with_reducible repeat (first | refine blk_drewN ?_ _ | refine blk_drew ?_ | refine blk_alloc ?_ _)); refine blk_put (cs := #[.string (⟨#[]⟩ : ByteArray), .string (⟨#[]⟩ : ByteArray), .int .i64 0, .int .i64 0, .int .i64 0]) ?_ 0 _ rfl; (with_reducible repeat (first | refine blk_drewN ?_ _ | refine blk_drew ?_ | refine blk_alloc ?_ _)); exact BK528.out)) : gb529 ≠ gb528)); clear BK515 BK516 BK518 BK520 BK522 BK523 BK525 BK528 HB; rename_i BK515 BK516 BK518 BK520 BK522 BK523 BK525 BK528 HB BK529 GW529 GE529 NB515_529 NB529_515 NB516_529 NB529_516 NB518_529 NB529_518 NB520_529 NB529_520 NB522_529 NB529_522 NB523_529 NB529_523 NB525_529 NB529_525 NB528_529 NB529_528; clear hb hbox hg; have hnb100 := NB529_515.out; have hnc100 := NB515_529.out; have hnb101 := NB529_516.out; have hnc101 := NB516_529.out; have hnb102 := NB529_518.out; have hnc102 := NB518_529.out; have hnb103 := NB529_520.out; have hnc103 := NB520_529.out; have hnb104 := NB529_522.out; have hnc104 := NB522_529.out; have hnb105 := NB529_523.out; have hnc105 := NB523_529.out; have hnb106 := NB529_525.out; have hnc106 := NB525_529.out; have hnb107 := NB529_528.out; have hnc107 := NB528_529.out; obtain ⟨hcz108_0, hcz108_1, hcz108_2, hcz108_3, hcz108_4, hfz108_0, hfz108_1, hfz108_2, hfz108_3, hfz108_4⟩ := zc5 BK529; obtain ⟨hcz109_0, hcz109_1, hcz109_2, hcz109_3, hcz109_4, hfz109_0, hfz109_1, hfz109_2, hfz109_3, hfz109_4⟩ := zc5 BK528) | (go_at_call 77; (with_reducible refine (impl_ProbeClash_ahead.calls a1_0 ((rd_T101 ((rd_T105 l0_0 x30_1).f2) x37_2).f4) t526 x62_3 ((rd_T101 ((rd_T105 l0_0 x30_1).f2) x37_2).f5) ((Mp.mget x519000_3 ((rd_T101 ((rd_T105 l0_0 x30_1).f2) x37_2).f4)).f0) ((Mp.mget x519000_3 ((rd_T101 ((rd_T105 l0_0 x30_1).f2) x37_2).f4)).f1) ((Mp.mget x519000_3 ((rd_T101 ((rd_T105 l0_0 x30_1).f2) x37_2).f4)).f2) ((Mp.mget x519000_3 ((rd_T101 ((rd_T105 l0_0 x30_1).f2) x37_2).f4)).f3) ((Mp.mget x519000_3 ((rd_T101 ((rd_T105 l0_0 x30_1).f2) x37_2).f4)).f4) true _ A62.out).mono ?_); rintro e w110 ⟨rfl, hb⟩; have _ := bb (bk BK515) hb; have _ := bb (bk BK516) hb; have _ := bb (Mp.mb BK518) hb; have _ := bb (bk BK520) hb; have _ := bb (bk BK522) hb; have _ := bb (bk BK523) hb; have _ := bb (bk BK525) hb; have _ := bb (bk BK528) hb; have _ := bb (o := .cells #[.string ((Mp.mget x519000_3 ((rd_T101 ((rd_T105 l0_0 x30_1).f2) x37_2).f4)).f0), .string ((Mp.mget x519000_3 ((rd_T101 ((rd_T105 l0_0 x30_1).f2) x37_2).f4)).f1), .int .i64 ((Mp.mget x519000_3 ((rd_T101 ((rd_T105 l0_0 x30_1).f2) x37_2).f4)).f2), .int .i64 ((Mp.mget x519000_3 ((rd_T101 ((rd_T105 l0_0 x30_1).f2) x37_2).f4)).f3), .int .i64 ((Mp.mget x519000_3 ((rd_T101 ((rd_T105 l0_0 x30_1).f2) x37_2).f4)).f4)] 49 (0, 0)) (by (with_reducible repeat (first | refine blk_drewN ?_ _ | refine blk_drew ?_ | refine blk_alloc ?_ _)); refine blk_put (cs := #[.string ((Mp.mget x519000_3 ((rd_T101 ((rd_T105 l0_0 x30_1).f2) x37_2).f4)).f0), .string ((Mp.mget x519000_3 ((rd_T101 ((rd_T105 l0_0 x30_1).f2) x37_2).f4)).f1), .int .i64 ((Mp.mget x519000_3 ((rd_T101 ((rd_T105 l0_0 x30_1).f2) x37_2).f4)).f2), .int .i64 ((Mp.mget x519000_3 ((rd_T101 ((rd_T105 l0_0 x30_1).f2) x37_2).f4)).f3), .int .i64 0]) ?_ 4 _ rfl; (with_reducible repeat (first | refine blk_drewN ?_ _ | refine blk_drew ?_ | refine blk_alloc ?_ _)); refine blk_put (cs := #[.string ((Mp.mget x519000_3 ((rd_T101 ((rd_T105 l0_0 x30_1).f2) x37_2).f4)).f0), .string ((Mp.mget x519000_3 ((rd_T101 ((rd_T105 l0_0 x30_1).f2) x37_2).f4)).f1), .int .i64 ((Mp.mget x519000_3 ((rd_T101 ((rd_T105 l0_0 x30_1).f2) x37_2).f4)).f2), .int .i64 0, .int .i64 0]) ?_ 3 _ rfl; (with_reducible repeat (first | refine blk_drewN ?_ _ | refine blk_drew ?_ | refine blk_alloc ?_ _)); refine blk_put (cs := #[.string ((Mp.mget x519000_3 ((rd_T101 ((rd_T105 l0_0 x30_1).f2) x37_2).f4)).f0), .string ((Mp.mget x519000_3 ((rd_T101 ((rd_T105 l0_0 x30_1).f2) x37_2).f4)).f1), .int .i64 0, .int .i64 0, .int .i64 0]) ?_ 2 _ rfl; (with_reducible repeat (first | refine blk_drewN ?_ _ | refine blk_drew ?_ | refine blk_alloc ?_ _)); refine blk_put (cs := #[.string ((Mp.mget x519000_3 ((rd_T101 ((rd_T105 l0_0 x30_1).f2) x37_2).f4)).f0), .string (⟨#[]⟩ : ByteArray), .int .i64 0, .int .i64 0, .int .i64 0]) ?_ 1 _ rfl; (with_reducible repeat (first | refine blk_drewN ?_ _ | refine blk_drew ?_ | refine blk_alloc ?_ _)); refine blk_put (cs := #[.string (⟨#[]⟩ : ByteArray), .string (⟨#[]⟩ : ByteArray), .int .i64 0, .int .i64 0, .int .i64 0]) ?_ 0 _ rfl; (with_reducible repeat (first | refine blk_drewN ?_ _ | refine blk_drew ?_ | refine blk_alloc ?_ _)); exact BK529.out) hb; have _ := bs hb; clear BK515 BK516 BK518 BK520 BK522 BK523 BK525 BK528 BK529 HB; rename_i BK515 BK516 BK518 BK520 BK522 BK523 BK525 BK528 BK529 HB; (try clear hb); (try clear hb2); (try clear hk); (try clear hi); obtain ⟨hcz111_0, hcz111_1, hcz111_2, hcz111_3, hcz111_4, hcz111_5, hfz111_0, hfz111_1, hfz111_2, hfz111_3, hfz111_4, hfz111_5⟩ := zc6 BK522; obtain ⟨hcz112_0, hcz112_1, hcz112_2, hcz112_3, hcz112_4, hfz112_0, hfz112_1, hfz112_2, hfz112_3, hfz112_4⟩ := zc5 BK528) | ((at_mapUpdate; refine Mp.updA_event (M := x519000_3) ?hgm114 ?omm114 ?oxm114 ?ovm114 ?hom114 ?hdm114 (((rd_T101 ((rd_T105 l0_0 x30_1).f2) x37_2).f4)) (⟨a1_0, ((rd_T101 ((rd_T105 l0_0 x30_1).f2) x37_2).f4), t526, x62_3, ((rd_T101 ((rd_T105 l0_0 x30_1).f2) x37_2).f5)⟩ : S49) ?hmm114 ?hxm114 ?hvm114 (Mp.mb BK518) ?_; (case hgm114 => rfl); (case hom114 => rfl); (case hdm114 => rfl); (case hmm114 => rfl); (case hxm114 => first | rfl | (go_simp; done) | (go_simp; rfl)); (case hvm114 => first | rfl | (go_simp; done) | (go_simp; rfl))); intro w113 hbox hg; have _ := ra (blk_grown (g := gb515) (o := .cells #[.slice (some ad519) l0_0.length c0_0] 65 (0, 0)) (bk BK515) hg (by simpa using NB515_518.out)); have _ := ra (blk_grown (g := gb516) (o := .cells #[.string a1_0, .slice (some ad524) l1_1.length c1_1] 40 (0, 0)) (bk BK516) hg (by simpa using NB516_518.out)); have _ := ra (blk_grown (g := gb520) (o := .cells #[.int .i64 ((rd_T105 l0_0 x30_1).f0), .int .i64 ((rd_T105 l0_0 x30_1).f1), .slice (some ad521) ((rd_T105 l0_0 x30_1).f2).length c519_2] 105 (0, 0)) (bk BK520) hg (by simpa using NB520_518.out)); have _ := ra (blk_grown (g := gb522) (o := .cells #[.int .i64 ((rd_T101 ((rd_T105 l0_0 x30_1).f2) x37_2).f0), .int .i64 ((rd_T101 ((rd_T105 l0_0 x30_1).f2) x37_2).f1), .int .i64 ((rd_T101 ((rd_T105 l0_0 x30_1).f2) x37_2).f2), .int .i64 ((rd_T101 ((rd_T105 l0_0 x30_1).f2) x37_2).f3), .string ((rd_T101 ((rd_T105 l0_0 x30_1).f2) x37_2).f4), .int .i64 ((rd_T101 ((rd_T105 l0_0 x30_1).f2) x37_2).f5)] 101 (0, 0)) (bk BK522) hg (by simpa using NB522_518.out)); have _ := ra (blk_grown (g := gb523) (o := .cells #[.int .i64 ((rd_T105 l0_0 x30_1).f0), .int .i64 ((rd_T105 l0_0 x30_1).f1), .int .i64 ((rd_T101 ((rd_T105 l0_0 x30_1).f2) x37_2).f2), .int .i64 ((rd_T101 ((rd_T105 l0_0 x30_1).f2) x37_2).f3), .int .i64 ((rd_T101 ((rd_T105 l0_0 x30_1).f2) x37_2).f0), .int .i64 ((rd_T101 ((rd_T105 l0_0 x30_1).f2) x37_2).f1)] 95 (0, 0)) (bk BK523) hg (by simpa using NB523_518.out)); have _ := ra (blk_grown (g := gb525) (o := .cells #[.int .i64 ((rd_T95 l1_1 x62_3).f0), .int .i64 ((rd_T95 l1_1 x62_3).f1), .int .i64 ((rd_T95 l1_1 x62_3).f2), .int .i64 ((rd_T95 l1_1 x62_3).f3), .int .i64 ((rd_T95 l1_1 x62_3).f4), .int .i64 ((rd_T95 l1_1 x62_3).f5)] 95 (0, 0)) (bk BK525) hg (by simpa using NB525_518.out)); have _ := ra (blk_grown (g := gb528) (o := .cells #[.string a1_0, .string ((rd_T101 ((rd_T105 l0_0 x30_1).f2) x37_2).f4), .int .i64 t526, .int .i64 x62_3, .int .i64 ((rd_T101 ((rd_T105 l0_0 x30_1).f2) x37_2).f5)] 49 (0, 0)) (bk BK528) hg (by simpa using NB528_518.out)); have _ := ra (blk_grown (g := gb529) (o := .cells #[.string ((Mp.mget x519000_3 ((rd_T101 ((rd_T105 l0_0 x30_1).f2) x37_2).f4)).f0), .string ((Mp.mget x519000_3 ((rd_T101 ((rd_T105 l0_0 x30_1).f2) x37_2).f4)).f1), .int .i64 ((Mp.mget x519000_3 ((rd_T101 ((rd_T105 l0_0 x30_1).f2) x37_2).f4)).f2), .int .i64 ((Mp.mget x519000_3 ((rd_T101 ((rd_T105 l0_0 x30_1).f2) x37_2).f4)).f3), .int .i64 ((Mp.mget x519000_3 ((rd_T101 ((rd_T105 l0_0 x30_1).f2) x37_2).f4)).f4)] 49 (0, 0)) (bk BK529) hg (by simpa using NB529_518.out)); have _ := ra (hbox); have _ := ra (Below.grown bq hg (below_size bq) (fun j hj => by cases hj; exact GE518.out)); clear BK515 BK516 BK520 BK522 BK523 BK525 BK528 BK529 BK518 HB; rename_i BK515 BK516 BK520 BK522 BK523 BK525 BK528 BK529 BK518 HB; clear hbox hg))
                     go_roundg k3
                     case measure => have := HK1.out; have := HK2.out; have := HK3.out; omega
                     case rel => exact ⟨(wrap64 (x62_3 + 1)), (Mp.mput x519000_3 ((rd_T101 ((rd_T105 l0_0 x30_1).f2) x37_2).f4) (⟨a1_0, ((rd_T101 ((rd_T105 l0_0 x30_1).f2) x37_2).f4), t526, x62_3, ((rd_T101 ((rd_T105 l0_0 x30_1).f2) x37_2).f5)⟩ : S49)), rs, H', ⟨by have := HK1.out; have := HK2.out; have := HK3.out; omega⟩, ⟨bk BK515⟩, ⟨bk BK516⟩, ⟨Mp.mb BK518⟩, ⟨bk BK520⟩, ⟨bk BK522⟩, ⟨bk BK523⟩, ⟨bq⟩⟩
                    ·replace c63 := Bool.eq_false_iff.mpr c63
                     subst c63
                     have H1 : (impl_ProbeAsk.l2 k3 l0_0 (l0_0.length : Int) x30_1 ((rd_T105 l0_0 x30_1).f2) (((rd_T105 l0_0 x30_1).f2).length : Int) x37_2 l1_1 (l1_1.length : Int) (wrap64 (x62_3 + 1)) a1_0 l1_1 x519000_3 ((rd_T105 l0_0 x30_1).f0) ((rd_T105 l0_0 x30_1).f1) ((rd_T105 l0_0 x30_1).f2) ((rd_T101 ((rd_T105 l0_0 x30_1).f2) x37_2).f0) ((rd_T101 ((rd_T105 l0_0 x30_1).f2) x37_2).f1) ((rd_T101 ((rd_T105 l0_0 x30_1).f2) x37_2).f2) ((rd_T101 ((rd_T105 l0_0 x30_1).f2) x37_2).f3) ((rd_T101 ((rd_T105 l0_0 x30_1).f2) x37_2).f4) ((rd_T101 ((rd_T105 l0_0 x30_1).f2) x37_2).f5) ((rd_T105 l0_0 x30_1).f0) ((rd_T105 l0_0 x30_1).f1) ((rd_T101 ((rd_T105 l0_0 x30_1).f2) x37_2).f2) ((rd_T101 ((rd_T105 l0_0 x30_1).f2) x37_2).f3) ((rd_T101 ((rd_T105 l0_0 x30_1).f2) x37_2).f0) ((rd_T101 ((rd_T105 l0_0 x30_1).f2) x37_2).f1)) = some r := by rw [if_neg (show ¬ (false = true) by decide)] at H; exact H
                     clear H
                     have H := H1
                     clear H1
                     have H' := Aside0.mk H
                     clear H
                     have p524 : 0 ≤ (x62_3 : Int) := od
                     have q524 : x62_3 < (l1_1.length : Int) := od
                     obtain ⟨ad524, e524, hx524_0, hx524_1, hx524_2, hx524_3, hx524_4, hx524_5⟩ := at_T95 HR1_1.out x62_3 p524 q524
                     cases e524
                     replace hx524_0 := hc HB hx524_0
                     replace hx524_1 := hc HB hx524_1
                     replace hx524_2 := hc HB hx524_2
                     replace hx524_3 := hc HB hx524_3
                     replace hx524_4 := hc HB hx524_4
                     replace hx524_5 := hc HB hx524_5
                     replace p524 := eq_true p524
                     replace q524 := eq_true q524
                     go_wp2_with (first | ((with_reducible refine gate_dst (N := 12) rfl ?_); refine be 12 #[.int .i64 0, .int .i64 0, .int .i64 0, .int .i64 0, .int .i64 0, .int .i64 0] 95 ?_; intro gb525 hg w115 hbox hb; have _ := bb (bk BK515) hb; have _ := bb (bk BK516) hb; have _ := bb (Mp.mb BK518) hb; have _ := bb (bk BK520) hb; have _ := bb (bk BK522) hb; have _ := bb (bk BK523) hb; have _ := bs hb; have _ := ra (hbox); have _ := bz (w0 := w) hg; have _ := bz (w0 := w) hg; have _ := bn hg (bk BK515); have _ := bm hg (bk BK515); have _ := bn hg (bk BK516); have _ := bm hg (bk BK516); have _ := Mp.mn hg (Mp.mb BK518); have _ := Mp.mm hg (Mp.mb BK518); have _ := bn hg (bk BK520); have _ := bm hg (bk BK520); have _ := bn hg (bk BK522); have _ := bm hg (bk BK522); have _ := bn hg (bk BK523); have _ := bm hg (bk BK523); clear BK515 BK516 BK518 BK520 BK522 BK523 HB; rename_i BK515 BK516 BK518 BK520 BK522 BK523 HB BK525 GW525 GE525 NB515_525 NB525_515 NB516_525 NB525_516 NB518_525 NB525_518 NB520_525 NB525_520 NB522_525 NB525_522 NB523_525 NB525_523; clear hb hbox hg; have hnb116 := NB525_515.out; have hnc116 := NB515_525.out; have hnb117 := NB525_516.out; have hnc117 := NB516_525.out; have hnb118 := NB525_518.out; have hnc118 := NB518_525.out; have hnb119 := NB525_520.out; have hnc119 := NB520_525.out; have hnb120 := NB525_522.out; have hnc120 := NB522_525.out; have hnb121 := NB525_523.out; have hnc121 := NB523_525.out; obtain ⟨hcz122_0, hcz122_1, hcz122_2, hcz122_3, hcz122_4, hcz122_5, hfz122_0, hfz122_1, hfz122_2, hfz122_3, hfz122_4, hfz122_5⟩ := zc6 BK525; have hnb123 := NB523_515.out; have hnc123 := NB515_523.out; have hnb124 := NB523_516.out; have hnc124 := NB516_523.out; have hnb125 := NB523_518.out; have hnc125 := NB518_523.out; have hnb126 := NB523_520.out; have hnc126 := NB520_523.out; have hnb127 := NB523_522.out; have hnc127 := NB522_523.out; obtain ⟨hcz128_0, hcz128_1, hcz128_2, hcz128_3, hcz128_4, hcz128_5, hfz128_0, hfz128_1, hfz128_2, hfz128_3, hfz128_4, hfz128_5⟩ := zc6 BK523) | ((with_reducible refine gate_callee (f := 76) rfl ?_); refine gl (some 70) Try.func76 #[.agg #[.int .i64 ((rd_T95 l1_1 x62_3).f0), .int .i64 ((rd_T95 l1_1 x62_3).f1), .int .i64 ((rd_T95 l1_1 x62_3).f2), .int .i64 ((rd_T95 l1_1 x62_3).f3), .int .i64 ((rd_T95 l1_1 x62_3).f4), .int .i64 ((rd_T95 l1_1 x62_3).f5)], .agg #[.int .i64 ((rd_T105 l0_0 x30_1).f0), .int .i64 ((rd_T105 l0_0 x30_1).f1), .int .i64 ((rd_T101 ((rd_T105 l0_0 x30_1).f2) x37_2).f2), .int .i64 ((rd_T101 ((rd_T105 l0_0 x30_1).f2) x37_2).f3), .int .i64 ((rd_T101 ((rd_T105 l0_0 x30_1).f2) x37_2).f0), .int .i64 ((rd_T101 ((rd_T105 l0_0 x30_1).f2) x37_2).f1)]] ?_; (with_reducible refine (impl_ProbeClose.calls k3 ((rd_T95 l1_1 x62_3).f0) ((rd_T95 l1_1 x62_3).f1) ((rd_T95 l1_1 x62_3).f2) ((rd_T95 l1_1 x62_3).f3) ((rd_T95 l1_1 x62_3).f4) ((rd_T95 l1_1 x62_3).f5) ((rd_T105 l0_0 x30_1).f0) ((rd_T105 l0_0 x30_1).f1) ((rd_T101 ((rd_T105 l0_0 x30_1).f2) x37_2).f2) ((rd_T101 ((rd_T105 l0_0 x30_1).f2) x37_2).f3) ((rd_T101 ((rd_T105 l0_0 x30_1).f2) x37_2).f0) ((rd_T101 ((rd_T105 l0_0 x30_1).f2) x37_2).f1) t526 true _ A59.out).mono ?_); rintro e w129 ⟨rfl, hb⟩; refine ⟨_, rfl, ?_⟩; have _ := bb (bk BK515) hb; have _ := bb (bk BK516) hb; have _ := bb (Mp.mb BK518) hb; have _ := bb (bk BK520) hb; have _ := bb (bk BK522) hb; have _ := bb (bk BK523) hb; have _ := bb (o := .cells #[.int .i64 ((rd_T95 l1_1 x62_3).f0), .int .i64 ((rd_T95 l1_1 x62_3).f1), .int .i64 ((rd_T95 l1_1 x62_3).f2), .int .i64 ((rd_T95 l1_1 x62_3).f3), .int .i64 ((rd_T95 l1_1 x62_3).f4), .int .i64 ((rd_T95 l1_1 x62_3).f5)] 95 (0, 0)) (bp BK525) hb; have _ := bs hb; clear BK515 BK516 BK518 BK520 BK522 BK523 BK525 HB; rename_i BK515 BK516 BK518 BK520 BK522 BK523 BK525 HB; (try clear hb); (try clear hb2); (try clear hk); (try clear hi); have hnb130 := NB516_515.out; have hnc130 := NB515_516.out; have hnb131 := NB516_518.out; have hnc131 := NB518_516.out; have hnb132 := NB516_520.out; have hnc132 := NB520_516.out; have hnb133 := NB516_522.out; have hnc133 := NB522_516.out; obtain ⟨hcz134_0, hcz134_1, hfz134_0, hfz134_1⟩ := zc2 BK516; have hnb135 := NB522_515.out; have hnc135 := NB515_522.out; have hnb136 := NB522_518.out; have hnc136 := NB518_522.out; have hnb137 := NB522_520.out; have hnc137 := NB520_522.out; obtain ⟨hcz138_0, hcz138_1, hcz138_2, hcz138_3, hcz138_4, hcz138_5, hfz138_0, hfz138_1, hfz138_2, hfz138_3, hfz138_4, hfz138_5⟩ := zc6 BK522) | ((with_reducible refine gate_dst (N := 15) rfl ?_); refine be 15 #[.string (⟨#[]⟩ : ByteArray), .string (⟨#[]⟩ : ByteArray), .int .i64 0, .int .i64 0, .int .i64 0] 49 ?_; intro gb528 hg w139 hbox hb; have _ := bb (bk BK515) hb; have _ := bb (bk BK516) hb; have _ := bb (Mp.mb BK518) hb; have _ := bb (bk BK520) hb; have _ := bb (bk BK522) hb; have _ := bb (bk BK523) hb; have _ := bb (bk BK525) hb; have _ := bs hb; have _ := ra (hbox); have _ := bz (w0 := w) hg; have _ := bz (w0 := w) hg; have _ := bn hg (bk BK515); have _ := bm hg (bk BK515); have _ := bn hg (bk BK516); have _ := bm hg (bk BK516); have _ := Mp.mn hg (Mp.mb BK518); have _ := Mp.mm hg (Mp.mb BK518); have _ := bn hg (bk BK520); have _ := bm hg (bk BK520); have _ := bn hg (bk BK522); have _ := bm hg (bk BK522); have _ := bn hg (bk BK523); have _ := bm hg (bk BK523); have _ := bn hg (bk BK525); have _ := bm hg (bk BK525); clear BK515 BK516 BK518 BK520 BK522 BK523 BK525 HB; rename_i BK515 BK516 BK518 BK520 BK522 BK523 BK525 HB BK528 GW528 GE528 NB515_528 NB528_515 NB516_528 NB528_516 NB518_528 NB528_518 NB520_528 NB528_520 NB522_528 NB528_522 NB523_528 NB528_523 NB525_528 NB528_525; clear hb hbox hg; have hnb140 := NB528_515.out; have hnc140 := NB515_528.out; have hnb141 := NB528_516.out; have hnc141 := NB516_528.out; have hnb142 := NB528_518.out; have hnc142 := NB518_528.out; have hnb143 := NB528_520.out; have hnc143 := NB520_528.out; have hnb144 := NB528_522.out; have hnc144 := NB522_528.out; have hnb145 := NB528_523.out; have hnc145 := NB523_528.out; have hnb146 := NB528_525.out; have hnc146 := NB525_528.out; obtain ⟨hcz147_0, hcz147_1, hcz147_2, hcz147_3, hcz147_4, hfz147_0, hfz147_1, hfz147_2, hfz147_3, hfz147_4⟩ := zc5 BK528; obtain ⟨hcz148_0, hcz148_1, hcz148_2, hcz148_3, hcz148_4, hcz148_5, hfz148_0, hfz148_1, hfz148_2, hfz148_3, hfz148_4, hfz148_5⟩ := zc6 BK522) | ((with_reducible refine gate_dst (N := 88) rfl ?_); refine Mp.lookA_event (M := x519000_3) ?hgm149 ?omm149 ?oxm149 ?hom149 (((rd_T101 ((rd_T105 l0_0 x30_1).f2) x37_2).f4)) ?hmm149 ?hxm149 (Mp.mb BK518) ?_; (case hgm149 => rfl); (case hom149 => rfl); (case hmm149 => rfl); (case hxm149 => first | rfl | (go_simp; done) | (go_simp; rfl))) | ((with_reducible refine gate_dst (N := 16) rfl ?_); refine be 16 #[.string (⟨#[]⟩ : ByteArray), .string (⟨#[]⟩ : ByteArray), .int .i64 0, .int .i64 0, .int .i64 0] 49 ?_; intro gb529 hg w150 hbox hb; have _ := bb (bk BK515) hb; have _ := bb (bk BK516) hb; have _ := bb (Mp.mb BK518) hb; have _ := bb (bk BK520) hb; have _ := bb (bk BK522) hb; have _ := bb (bk BK523) hb; have _ := bb (bk BK525) hb; have _ := bb (o := .cells #[.string a1_0, .string ((rd_T101 ((rd_T105 l0_0 x30_1).f2) x37_2).f4), .int .i64 t526, .int .i64 x62_3, .int .i64 ((rd_T101 ((rd_T105 l0_0 x30_1).f2) x37_2).f5)] 49 (0, 0)) (by (with_reducible repeat (first | refine blk_drewN ?_ _ | refine blk_drew ?_ | refine blk_alloc ?_ _)); refine blk_put (cs := #[.string a1_0, .string ((rd_T101 ((rd_T105 l0_0 x30_1).f2) x37_2).f4), .int .i64 t526, .int .i64 x62_3, .int .i64 0]) ?_ 4 _ rfl; (with_reducible repeat (first | refine blk_drewN ?_ _ | refine blk_drew ?_ | refine blk_alloc ?_ _)); refine blk_put (cs := #[.string a1_0, .string ((rd_T101 ((rd_T105 l0_0 x30_1).f2) x37_2).f4), .int .i64 t526, .int .i64 0, .int .i64 0]) ?_ 3 _ rfl; (with_reducible repeat (first | refine blk_drewN ?_ _ | refine blk_drew ?_ | refine blk_alloc ?_ _)); refine blk_put (cs := #[.string a1_0, .string ((rd_T101 ((rd_T105 l0_0 x30_1).f2) x37_2).f4), .int .i64 0, .int .i64 0, .int .i64 0]) ?_ 2 _ rfl; (with_reducible repeat (first | refine blk_drewN ?_ _ | refine blk_drew ?_ | refine blk_alloc ?_ _)); refine blk_put (cs := #[.string a1_0, .string (⟨#[]⟩ : ByteArray), .int .i64 0, .int .i64 0, .int .i64 0]) ?_ 1 _ rfl; (with_reducible repeat (first | refine blk_drewN ?_ _ | refine blk_drew ?_ | refine blk_alloc ?_ _)); refine blk_put (cs := #[.string (⟨#[]⟩ : ByteArray), .string (⟨#[]⟩ : ByteArray), .int .i64 0, .int .i64 0, .int .i64 0]) ?_ 0 _ rfl; (with_reducible repeat (first | refine blk_drewN ?_ _ | refine blk_drew ?_ | refine blk_alloc ?_ _)); exact BK528.out) hb; have _ := bs hb; have _ := ra (hbox); have _ := bz (w0 := w) hg; have _ := bz (w0 := w) hg; have _ := bn hg (bk BK515); have _ := bm hg (bk BK515); have _ := bn hg (bk BK516); have _ := bm hg (bk BK516); have _ := Mp.mn hg (Mp.mb BK518); have _ := Mp.mm hg (Mp.mb BK518); have _ := bn hg (bk BK520); have _ := bm hg (bk BK520); have _ := bn hg (bk BK522); have _ := bm hg (bk BK522); have _ := bn hg (bk BK523); have _ := bm hg (bk BK523); have _ := bn hg (bk BK525); have _ := bm hg (bk BK525); have _ := ra ((by rw [hg]; exact Nat.ne_of_lt (blk_lt (g := gb528) (o := .cells #[.string a1_0, .string ((rd_T101 ((rd_T105 l0_0 x30_1).f2) x37_2).f4), .int .i64 t526, .int .i64 x62_3, .int .i64 ((rd_T101 ((rd_T105 l0_0 x30_1).f2) x37_2).f5)] 49 (0, 0)) (by (with_reducible repeat (first | refine blk_drewN ?_ _ | refine blk_drew ?_ | refine blk_alloc ?_ _)); refine blk_put (cs := #[.string a1_0, .string ((rd_T101 ((rd_T105 l0_0 x30_1).f2) x37_2).f4), .int .i64 t526, .int .i64 x62_3, .int .i64 0]) ?_ 4 _ rfl; (with_reducible repeat (first | refine blk_drewN ?_ _ | refine blk_drew ?_ | refine blk_alloc ?_ _)); refine blk_put (cs := #[.string a1_0, .string ((rd_T101 ((rd_T105 l0_0 x30_1).f2) x37_2).f4), .int .i64 t526, .int .i64 0, .int .i64 0]) ?_ 3 _ rfl; (with_reducible repeat (first | refine blk_drewN ?_ _ | refine blk_drew ?_ | refine blk_alloc ?_ _)); refine blk_put (cs := #[.string a1_0, .string ((rd_T101 ((rd_T105 l0_0 x30_1).f2) x37_2).f4), .int .i64 0, .int .i64 0, .int .i64 0]) ?_ 2 _ rfl; (with_reducible repeat (first | refine blk_drewN ?_ _ | refine blk_drew ?_ | refine blk_alloc ?_ _)); refine blk_put (cs := #[.string a1_0, .string (⟨#[]⟩ : ByteArray), .int .i64 0, .int .i64 0, .int .i64 0]) ?_ 1 _ rfl; (with_reducible repeat (first | refine blk_drewN ?_ _ | refine blk_drew ?_ | refine blk_alloc ?_ _)); refine blk_put (cs := #[.string (⟨#[]⟩ : ByteArray), .string (⟨#[]⟩ : ByteArray), .int .i64 0, .int .i64 0, .int .i64 0]) ?_ 0 _ rfl; (with_reducible repeat (first | refine blk_drewN ?_ _ | refine blk_drew ?_ | refine blk_alloc ?_ _)); exact BK528.out)) : gb528 ≠ gb529)); have _ := ra ((by rw [hg]; exact Nat.ne_of_gt (blk_lt (g := gb528) (o := .cells #[.string a1_0, .string ((rd_T101 ((rd_T105 l0_0 x30_1).f2) x37_2).f4), .int .i64 t526, .int .i64 x62_3, .int .i64 ((rd_T101 ((rd_T105 l0_0 x30_1).f2) x37_2).f5)] 49 (0, 0)) (by (with_reducible repeat (first | refine blk_drewN ?_ _ | refine blk_drew ?_ | refine blk_alloc ?_ _)); refine blk_put (cs := #[.string a1_0, .string ((rd_T101 ((rd_T105 l0_0 x30_1).f2) x37_2).f4), .int .i64 t526, .int .i64 x62_3, .int .i64 0]) ?_ 4 _ rfl; (with_reducible repeat (first | refine blk_drewN ?_ _ | refine blk_drew ?_ | refine blk_alloc ?_ _)); refine blk_put (cs := #[.string a1_0, .string ((rd_T101 ((rd_T105 l0_0 x30_1).f2) x37_2).f4), .int .i64 t526, .int .i64 0, .int .i64 0]) ?_ 3 _ rfl; (with_reducible repeat (first | refine blk_drewN ?_ _ | refine blk_drew ?_ | refine blk_alloc ?_ _)); refine blk_put (cs := #[.string a1_0, .string ((rd_T101 ((rd_T105 l0_0 x30_1).f2) x37_2).f4), .int .i64 0, .int .i64 0, .int .i64 0]) ?_ 2 _ rfl; (with_reducible repeat (first | refine blk_drewN ?_ _ | refine blk_drew ?_ | refine blk_alloc ?_ _)); refine blk_put (cs := #[.string a1_0, .string (⟨#[]⟩ : ByteArray), .int .i64 0, .int .i64 0, .int .i64 0]) ?_ 1 _ rfl; (with_reducible repeat (first | refine blk_drewN ?_ _ | refine blk_drew ?_ | refine blk_alloc ?_ _)); refine blk_put (cs := #[.string (⟨#[]⟩ : ByteArray), .string (⟨#[]⟩ : ByteArray), .int .i64 0, .int .i64 0, .int .i64 0]) ?_ 0 _ rfl; (with_reducible repeat (first | refine blk_drewN ?_ _ | refine blk_drew ?_ | refine blk_alloc ?_ _)); exact BK528.out)) : gb529 ≠ gb528)); clear BK515 BK516 BK518 BK520 BK522 BK523 BK525 BK528 HB; rename_i BK515 BK516 BK518 BK520 BK522 BK523 BK525 BK528 HB BK529 GW529 GE529 NB515_529 NB529_515 NB516_529 NB529_516 NB518_529 NB529_518 NB520_529 NB529_520 NB522_529 NB529_522 NB523_529 NB529_523 NB525_529 NB529_525 NB528_529 NB529_528; clear hb hbox hg; have hnb151 := NB529_515.out; have hnc151 := NB515_529.out; have hnb152 := NB529_516.out; have hnc152 := NB516_529.out; have hnb153 := NB529_518.out; have hnc153 := NB518_529.out; have hnb154 := NB529_520.out; have hnc154 := NB520_529.out; have hnb155 := NB529_522.out; have hnc155 := NB522_529.out; have hnb156 := NB529_523.out; have hnc156 := NB523_529.out; have hnb157 := NB529_525.out; have hnc157 := NB525_529.out; have hnb158 := NB529_528.out; have hnc158 := NB528_529.out; obtain ⟨hcz159_0, hcz159_1, hcz159_2, hcz159_3, hcz159_4, hfz159_0, hfz159_1, hfz159_2, hfz159_3, hfz159_4⟩ := zc5 BK529; obtain ⟨hcz160_0, hcz160_1, hcz160_2, hcz160_3, hcz160_4, hfz160_0, hfz160_1, hfz160_2, hfz160_3, hfz160_4⟩ := zc5 BK528) | (go_at_call 77; (with_reducible refine (impl_ProbeClash_ahead.calls a1_0 ((rd_T101 ((rd_T105 l0_0 x30_1).f2) x37_2).f4) t526 x62_3 ((rd_T101 ((rd_T105 l0_0 x30_1).f2) x37_2).f5) ((Mp.mget x519000_3 ((rd_T101 ((rd_T105 l0_0 x30_1).f2) x37_2).f4)).f0) ((Mp.mget x519000_3 ((rd_T101 ((rd_T105 l0_0 x30_1).f2) x37_2).f4)).f1) ((Mp.mget x519000_3 ((rd_T101 ((rd_T105 l0_0 x30_1).f2) x37_2).f4)).f2) ((Mp.mget x519000_3 ((rd_T101 ((rd_T105 l0_0 x30_1).f2) x37_2).f4)).f3) ((Mp.mget x519000_3 ((rd_T101 ((rd_T105 l0_0 x30_1).f2) x37_2).f4)).f4) false _ A62.out).mono ?_); rintro e w161 ⟨rfl, hb⟩; have _ := bb (bk BK515) hb; have _ := bb (bk BK516) hb; have _ := bb (Mp.mb BK518) hb; have _ := bb (bk BK520) hb; have _ := bb (bk BK522) hb; have _ := bb (bk BK523) hb; have _ := bb (bk BK525) hb; have _ := bb (bk BK528) hb; have _ := bb (o := .cells #[.string ((Mp.mget x519000_3 ((rd_T101 ((rd_T105 l0_0 x30_1).f2) x37_2).f4)).f0), .string ((Mp.mget x519000_3 ((rd_T101 ((rd_T105 l0_0 x30_1).f2) x37_2).f4)).f1), .int .i64 ((Mp.mget x519000_3 ((rd_T101 ((rd_T105 l0_0 x30_1).f2) x37_2).f4)).f2), .int .i64 ((Mp.mget x519000_3 ((rd_T101 ((rd_T105 l0_0 x30_1).f2) x37_2).f4)).f3), .int .i64 ((Mp.mget x519000_3 ((rd_T101 ((rd_T105 l0_0 x30_1).f2) x37_2).f4)).f4)] 49 (0, 0)) (by (with_reducible repeat (first | refine blk_drewN ?_ _ | refine blk_drew ?_ | refine blk_alloc ?_ _)); refine blk_put (cs := #[.string ((Mp.mget x519000_3 ((rd_T101 ((rd_T105 l0_0 x30_1).f2) x37_2).f4)).f0), .string ((Mp.mget x519000_3 ((rd_T101 ((rd_T105 l0_0 x30_1).f2) x37_2).f4)).f1), .int .i64 ((Mp.mget x519000_3 ((rd_T101 ((rd_T105 l0_0 x30_1).f2) x37_2).f4)).f2), .int .i64 ((Mp.mget x519000_3 ((rd_T101 ((rd_T105 l0_0 x30_1).f2) x37_2).f4)).f3), .int .i64 0]) ?_ 4 _ rfl; (with_reducible repeat (first | refine blk_drewN ?_ _ | refine blk_drew ?_ | refine blk_alloc ?_ _)); refine blk_put (cs := #[.string ((Mp.mget x519000_3 ((rd_T101 ((rd_T105 l0_0 x30_1).f2) x37_2).f4)).f0), .string ((Mp.mget x519000_3 ((rd_T101 ((rd_T105 l0_0 x30_1).f2) x37_2).f4)).f1), .int .i64 ((Mp.mget x519000_3 ((rd_T101 ((rd_T105 l0_0 x30_1).f2) x37_2).f4)).f2), .int .i64 0, .int .i64 0]) ?_ 3 _ rfl; (with_reducible repeat (first | refine blk_drewN ?_ _ | refine blk_drew ?_ | refine blk_alloc ?_ _)); refine blk_put (cs := #[.string ((Mp.mget x519000_3 ((rd_T101 ((rd_T105 l0_0 x30_1).f2) x37_2).f4)).f0), .string ((Mp.mget x519000_3 ((rd_T101 ((rd_T105 l0_0 x30_1).f2) x37_2).f4)).f1), .int .i64 0, .int .i64 0, .int .i64 0]) ?_ 2 _ rfl; (with_reducible repeat (first | refine blk_drewN ?_ _ | refine blk_drew ?_ | refine blk_alloc ?_ _)); refine blk_put (cs := #[.string ((Mp.mget x519000_3 ((rd_T101 ((rd_T105 l0_0 x30_1).f2) x37_2).f4)).f0), .string (⟨#[]⟩ : ByteArray), .int .i64 0, .int .i64 0, .int .i64 0]) ?_ 1 _ rfl; (with_reducible repeat (first | refine blk_drewN ?_ _ | refine blk_drew ?_ | refine blk_alloc ?_ _)); refine blk_put (cs := #[.string (⟨#[]⟩ : ByteArray), .string (⟨#[]⟩ : ByteArray), .int .i64 0, .int .i64 0, .int .i64 0]) ?_ 0 _ rfl; (with_reducible repeat (first | refine blk_drewN ?_ _ | refine blk_drew ?_ | refine blk_alloc ?_ _)); exact BK529.out) hb; have _ := bs hb; clear BK515 BK516 BK518 BK520 BK522 BK523 BK525 BK528 BK529 HB; rename_i BK515 BK516 BK518 BK520 BK522 BK523 BK525 BK528 BK529 HB; (try clear hb); (try clear hb2); (try clear hk); (try clear hi)))
                     go_roundg k3
                     case measure => have := HK1.out; have := HK2.out; have := HK3.out; omega
                     case rel => exact ⟨(wrap64 (x62_3 + 1)), (x519000_3), rs, H', ⟨by have := HK1.out; have := HK2.out; have := HK3.out; omega⟩, ⟨bk BK515⟩, ⟨bk BK516⟩, ⟨Mp.mb BK518⟩, ⟨bk BK520⟩, ⟨bk BK522⟩, ⟨bk BK523⟩, ⟨bq⟩⟩
                   ·rw [if_neg c61] at H
                    have c61b0 : Mp.mhas x519000_3 ((rd_T101 ((rd_T105 l0_0 x30_1).f2) x37_2).f4) = false := by simpa using c61
                    clear c61
                    have H' := Aside0.mk H
                    clear H
                    have p524 : 0 ≤ (x62_3 : Int) := od
                    have q524 : x62_3 < (l1_1.length : Int) := od
                    obtain ⟨ad524, e524, hx524_0, hx524_1, hx524_2, hx524_3, hx524_4, hx524_5⟩ := at_T95 HR1_1.out x62_3 p524 q524
                    cases e524
                    replace hx524_0 := hc HB hx524_0
                    replace hx524_1 := hc HB hx524_1
                    replace hx524_2 := hc HB hx524_2
                    replace hx524_3 := hc HB hx524_3
                    replace hx524_4 := hc HB hx524_4
                    replace hx524_5 := hc HB hx524_5
                    replace p524 := eq_true p524
                    replace q524 := eq_true q524
                    go_wp2_with (first | ((with_reducible refine gate_dst (N := 12) rfl ?_); refine be 12 #[.int .i64 0, .int .i64 0, .int .i64 0, .int .i64 0, .int .i64 0, .int .i64 0] 95 ?_; intro gb525 hg w162 hbox hb; have _ := bb (bk BK515) hb; have _ := bb (bk BK516) hb; have _ := bb (Mp.mb BK518) hb; have _ := bb (bk BK520) hb; have _ := bb (bk BK522) hb; have _ := bb (bk BK523) hb; have _ := bs hb; have _ := ra (hbox); have _ := bz (w0 := w) hg; have _ := bz (w0 := w) hg; have _ := bn hg (bk BK515); have _ := bm hg (bk BK515); have _ := bn hg (bk BK516); have _ := bm hg (bk BK516); have _ := Mp.mn hg (Mp.mb BK518); have _ := Mp.mm hg (Mp.mb BK518); have _ := bn hg (bk BK520); have _ := bm hg (bk BK520); have _ := bn hg (bk BK522); have _ := bm hg (bk BK522); have _ := bn hg (bk BK523); have _ := bm hg (bk BK523); clear BK515 BK516 BK518 BK520 BK522 BK523 HB; rename_i BK515 BK516 BK518 BK520 BK522 BK523 HB BK525 GW525 GE525 NB515_525 NB525_515 NB516_525 NB525_516 NB518_525 NB525_518 NB520_525 NB525_520 NB522_525 NB525_522 NB523_525 NB525_523; clear hb hbox hg; have hnb163 := NB525_515.out; have hnc163 := NB515_525.out; have hnb164 := NB525_516.out; have hnc164 := NB516_525.out; have hnb165 := NB525_518.out; have hnc165 := NB518_525.out; have hnb166 := NB525_520.out; have hnc166 := NB520_525.out; have hnb167 := NB525_522.out; have hnc167 := NB522_525.out; have hnb168 := NB525_523.out; have hnc168 := NB523_525.out; obtain ⟨hcz169_0, hcz169_1, hcz169_2, hcz169_3, hcz169_4, hcz169_5, hfz169_0, hfz169_1, hfz169_2, hfz169_3, hfz169_4, hfz169_5⟩ := zc6 BK525; have hnb170 := NB523_515.out; have hnc170 := NB515_523.out; have hnb171 := NB523_516.out; have hnc171 := NB516_523.out; have hnb172 := NB523_518.out; have hnc172 := NB518_523.out; have hnb173 := NB523_520.out; have hnc173 := NB520_523.out; have hnb174 := NB523_522.out; have hnc174 := NB522_523.out; obtain ⟨hcz175_0, hcz175_1, hcz175_2, hcz175_3, hcz175_4, hcz175_5, hfz175_0, hfz175_1, hfz175_2, hfz175_3, hfz175_4, hfz175_5⟩ := zc6 BK523) | ((with_reducible refine gate_callee (f := 76) rfl ?_); refine gl (some 70) Try.func76 #[.agg #[.int .i64 ((rd_T95 l1_1 x62_3).f0), .int .i64 ((rd_T95 l1_1 x62_3).f1), .int .i64 ((rd_T95 l1_1 x62_3).f2), .int .i64 ((rd_T95 l1_1 x62_3).f3), .int .i64 ((rd_T95 l1_1 x62_3).f4), .int .i64 ((rd_T95 l1_1 x62_3).f5)], .agg #[.int .i64 ((rd_T105 l0_0 x30_1).f0), .int .i64 ((rd_T105 l0_0 x30_1).f1), .int .i64 ((rd_T101 ((rd_T105 l0_0 x30_1).f2) x37_2).f2), .int .i64 ((rd_T101 ((rd_T105 l0_0 x30_1).f2) x37_2).f3), .int .i64 ((rd_T101 ((rd_T105 l0_0 x30_1).f2) x37_2).f0), .int .i64 ((rd_T101 ((rd_T105 l0_0 x30_1).f2) x37_2).f1)]] ?_; (with_reducible refine (impl_ProbeClose.calls k3 ((rd_T95 l1_1 x62_3).f0) ((rd_T95 l1_1 x62_3).f1) ((rd_T95 l1_1 x62_3).f2) ((rd_T95 l1_1 x62_3).f3) ((rd_T95 l1_1 x62_3).f4) ((rd_T95 l1_1 x62_3).f5) ((rd_T105 l0_0 x30_1).f0) ((rd_T105 l0_0 x30_1).f1) ((rd_T101 ((rd_T105 l0_0 x30_1).f2) x37_2).f2) ((rd_T101 ((rd_T105 l0_0 x30_1).f2) x37_2).f3) ((rd_T101 ((rd_T105 l0_0 x30_1).f2) x37_2).f0) ((rd_T101 ((rd_T105 l0_0 x30_1).f2) x37_2).f1) t526 true _ A59.out).mono ?_); rintro e w176 ⟨rfl, hb⟩; refine ⟨_, rfl, ?_⟩; have _ := bb (bk BK515) hb; have _ := bb (bk BK516) hb; have _ := bb (Mp.mb BK518) hb; have _ := bb (bk BK520) hb; have _ := bb (bk BK522) hb; have _ := bb (bk BK523) hb; have _ := bb (o := .cells #[.int .i64 ((rd_T95 l1_1 x62_3).f0), .int .i64 ((rd_T95 l1_1 x62_3).f1), .int .i64 ((rd_T95 l1_1 x62_3).f2), .int .i64 ((rd_T95 l1_1 x62_3).f3), .int .i64 ((rd_T95 l1_1 x62_3).f4), .int .i64 ((rd_T95 l1_1 x62_3).f5)] 95 (0, 0)) (bp BK525) hb; have _ := bs hb; clear BK515 BK516 BK518 BK520 BK522 BK523 BK525 HB; rename_i BK515 BK516 BK518 BK520 BK522 BK523 BK525 HB; (try clear hb); (try clear hb2); (try clear hk); (try clear hi); have hnb177 := NB516_515.out; have hnc177 := NB515_516.out; have hnb178 := NB516_518.out; have hnc178 := NB518_516.out; have hnb179 := NB516_520.out; have hnc179 := NB520_516.out; have hnb180 := NB516_522.out; have hnc180 := NB522_516.out; obtain ⟨hcz181_0, hcz181_1, hfz181_0, hfz181_1⟩ := zc2 BK516; have hnb182 := NB522_515.out; have hnc182 := NB515_522.out; have hnb183 := NB522_518.out; have hnc183 := NB518_522.out; have hnb184 := NB522_520.out; have hnc184 := NB520_522.out; obtain ⟨hcz185_0, hcz185_1, hcz185_2, hcz185_3, hcz185_4, hcz185_5, hfz185_0, hfz185_1, hfz185_2, hfz185_3, hfz185_4, hfz185_5⟩ := zc6 BK522) | ((with_reducible refine gate_dst (N := 15) rfl ?_); refine be 15 #[.string (⟨#[]⟩ : ByteArray), .string (⟨#[]⟩ : ByteArray), .int .i64 0, .int .i64 0, .int .i64 0] 49 ?_; intro gb528 hg w186 hbox hb; have _ := bb (bk BK515) hb; have _ := bb (bk BK516) hb; have _ := bb (Mp.mb BK518) hb; have _ := bb (bk BK520) hb; have _ := bb (bk BK522) hb; have _ := bb (bk BK523) hb; have _ := bb (bk BK525) hb; have _ := bs hb; have _ := ra (hbox); have _ := bz (w0 := w) hg; have _ := bz (w0 := w) hg; have _ := bn hg (bk BK515); have _ := bm hg (bk BK515); have _ := bn hg (bk BK516); have _ := bm hg (bk BK516); have _ := Mp.mn hg (Mp.mb BK518); have _ := Mp.mm hg (Mp.mb BK518); have _ := bn hg (bk BK520); have _ := bm hg (bk BK520); have _ := bn hg (bk BK522); have _ := bm hg (bk BK522); have _ := bn hg (bk BK523); have _ := bm hg (bk BK523); have _ := bn hg (bk BK525); have _ := bm hg (bk BK525); clear BK515 BK516 BK518 BK520 BK522 BK523 BK525 HB; rename_i BK515 BK516 BK518 BK520 BK522 BK523 BK525 HB BK528 GW528 GE528 NB515_528 NB528_515 NB516_528 NB528_516 NB518_528 NB528_518 NB520_528 NB528_520 NB522_528 NB528_522 NB523_528 NB528_523 NB525_528 NB528_525; clear hb hbox hg; have hnb187 := NB528_515.out; have hnc187 := NB515_528.out; have hnb188 := NB528_516.out; have hnc188 := NB516_528.out; have hnb189 := NB528_518.out; have hnc189 := NB518_528.out; have hnb190 := NB528_520.out; have hnc190 := NB520_528.out; have hnb191 := NB528_522.out; have hnc191 := NB522_528.out; have hnb192 := NB528_523.out; have hnc192 := NB523_528.out; have hnb193 := NB528_525.out; have hnc193 := NB525_528.out; obtain ⟨hcz194_0, hcz194_1, hcz194_2, hcz194_3, hcz194_4, hfz194_0, hfz194_1, hfz194_2, hfz194_3, hfz194_4⟩ := zc5 BK528; obtain ⟨hcz195_0, hcz195_1, hcz195_2, hcz195_3, hcz195_4, hcz195_5, hfz195_0, hfz195_1, hfz195_2, hfz195_3, hfz195_4, hfz195_5⟩ := zc6 BK522) | ((with_reducible refine gate_dst (N := 88) rfl ?_); refine Mp.lookA_event (M := x519000_3) ?hgm196 ?omm196 ?oxm196 ?hom196 (((rd_T101 ((rd_T105 l0_0 x30_1).f2) x37_2).f4)) ?hmm196 ?hxm196 (Mp.mb BK518) ?_; (case hgm196 => rfl); (case hom196 => rfl); (case hmm196 => rfl); (case hxm196 => first | rfl | (go_simp; done) | (go_simp; rfl))) | ((with_reducible refine gate_dst (N := 16) rfl ?_); refine be 16 #[.string (⟨#[]⟩ : ByteArray), .string (⟨#[]⟩ : ByteArray), .int .i64 0, .int .i64 0, .int .i64 0] 49 ?_; intro gb529 hg w197 hbox hb; have _ := bb (bk BK515) hb; have _ := bb (bk BK516) hb; have _ := bb (Mp.mb BK518) hb; have _ := bb (bk BK520) hb; have _ := bb (bk BK522) hb; have _ := bb (bk BK523) hb; have _ := bb (bk BK525) hb; have _ := bb (o := .cells #[.string a1_0, .string ((rd_T101 ((rd_T105 l0_0 x30_1).f2) x37_2).f4), .int .i64 t526, .int .i64 x62_3, .int .i64 ((rd_T101 ((rd_T105 l0_0 x30_1).f2) x37_2).f5)] 49 (0, 0)) (by (with_reducible repeat (first | refine blk_drewN ?_ _ | refine blk_drew ?_ | refine blk_alloc ?_ _)); refine blk_put (cs := #[.string a1_0, .string ((rd_T101 ((rd_T105 l0_0 x30_1).f2) x37_2).f4), .int .i64 t526, .int .i64 x62_3, .int .i64 0]) ?_ 4 _ rfl; (with_reducible repeat (first | refine blk_drewN ?_ _ | refine blk_drew ?_ | refine blk_alloc ?_ _)); refine blk_put (cs := #[.string a1_0, .string ((rd_T101 ((rd_T105 l0_0 x30_1).f2) x37_2).f4), .int .i64 t526, .int .i64 0, .int .i64 0]) ?_ 3 _ rfl; (with_reducible repeat (first | refine blk_drewN ?_ _ | refine blk_drew ?_ | refine blk_alloc ?_ _)); refine blk_put (cs := #[.string a1_0, .string ((rd_T101 ((rd_T105 l0_0 x30_1).f2) x37_2).f4), .int .i64 0, .int .i64 0, .int .i64 0]) ?_ 2 _ rfl; (with_reducible repeat (first | refine blk_drewN ?_ _ | refine blk_drew ?_ | refine blk_alloc ?_ _)); refine blk_put (cs := #[.string a1_0, .string (⟨#[]⟩ : ByteArray), .int .i64 0, .int .i64 0, .int .i64 0]) ?_ 1 _ rfl; (with_reducible repeat (first | refine blk_drewN ?_ _ | refine blk_drew ?_ | refine blk_alloc ?_ _)); refine blk_put (cs := #[.string (⟨#[]⟩ : ByteArray), .string (⟨#[]⟩ : ByteArray), .int .i64 0, .int .i64 0, .int .i64 0]) ?_ 0 _ rfl; (with_reducible repeat (first | refine blk_drewN ?_ _ | refine blk_drew ?_ | refine blk_alloc ?_ _)); exact BK528.out) hb; have _ := bs hb; have _ := ra (hbox); have _ := bz (w0 := w) hg; have _ := bz (w0 := w) hg; have _ := bn hg (bk BK515); have _ := bm hg (bk BK515); have _ := bn hg (bk BK516); have _ := bm hg (bk BK516); have _ := Mp.mn hg (Mp.mb BK518); have _ := Mp.mm hg (Mp.mb BK518); have _ := bn hg (bk BK520); have _ := bm hg (bk BK520); have _ := bn hg (bk BK522); have _ := bm hg (bk BK522); have _ := bn hg (bk BK523); have _ := bm hg (bk BK523); have _ := bn hg (bk BK525); have _ := bm hg (bk BK525); have _ := ra ((by rw [hg]; exact Nat.ne_of_lt (blk_lt (g := gb528) (o := .cells #[.string a1_0, .string ((rd_T101 ((rd_T105 l0_0 x30_1).f2) x37_2).f4), .int .i64 t526, .int .i64 x62_3, .int .i64 ((rd_T101 ((rd_T105 l0_0 x30_1).f2) x37_2).f5)] 49 (0, 0)) (by (with_reducible repeat (first | refine blk_drewN ?_ _ | refine blk_drew ?_ | refine blk_alloc ?_ _)); refine blk_put (cs := #[.string a1_0, .string ((rd_T101 ((rd_T105 l0_0 x30_1).f2) x37_2).f4), .int .i64 t526, .int .i64 x62_3, .int .i64 0]) ?_ 4 _ rfl; (with_reducible repeat (first | refine blk_drewN ?_ _ | refine blk_drew ?_ | refine blk_alloc ?_ _)); refine blk_put (cs := #[.string a1_0, .string ((rd_T101 ((rd_T105 l0_0 x30_1).f2) x37_2).f4), .int .i64 t526, .int .i64 0, .int .i64 0]) ?_ 3 _ rfl; (with_reducible repeat (first | refine blk_drewN ?_ _ | refine blk_drew ?_ | refine blk_alloc ?_ _)); refine blk_put (cs := #[.string a1_0, .string ((rd_T101 ((rd_T105 l0_0 x30_1).f2) x37_2).f4), .int .i64 0, .int .i64 0, .int .i64 0]) ?_ 2 _ rfl; (with_reducible repeat (first | refine blk_drewN ?_ _ | refine blk_drew ?_ | refine blk_alloc ?_ _)); refine blk_put (cs := #[.string a1_0, .string (⟨#[]⟩ : ByteArray), .int .i64 0, .int .i64 0, .int .i64 0]) ?_ 1 _ rfl; (with_reducible repeat (first | refine blk_drewN ?_ _ | refine blk_drew ?_ | refine blk_alloc ?_ _)); refine blk_put (cs := #[.string (⟨#[]⟩ : ByteArray), .string (⟨#[]⟩ : ByteArray), .int .i64 0, .int .i64 0, .int .i64 0]) ?_ 0 _ rfl; (with_reducible repeat (first | refine blk_drewN ?_ _ | refine blk_drew ?_ | refine blk_alloc ?_ _)); exact BK528.out)) : gb528 ≠ gb529)); have _ := ra ((by rw [hg]; exact Nat.ne_of_gt (blk_lt (g := gb528) (o := .cells #[.string a1_0, .string ((rd_T101 ((rd_T105 l0_0 x30_1).f2) x37_2).f4), .int .i64 t526, .int .i64 x62_3, .int .i64 ((rd_T101 ((rd_T105 l0_0 x30_1).f2) x37_2).f5)] 49 (0, 0)) (by (with_reducible repeat (first | refine blk_drewN ?_ _ | refine blk_drew ?_ | refine blk_alloc ?_ _)); refine blk_put (cs := #[.string a1_0, .string ((rd_T101 ((rd_T105 l0_0 x30_1).f2) x37_2).f4), .int .i64 t526, .int .i64 x62_3, .int .i64 0]) ?_ 4 _ rfl; (with_reducible repeat (first | refine blk_drewN ?_ _ | refine blk_drew ?_ | refine blk_alloc ?_ _)); refine blk_put (cs := #[.string a1_0, .string ((rd_T101 ((rd_T105 l0_0 x30_1).f2) x37_2).f4), .int .i64 t526, .int .i64 0, .int .i64 0]) ?_ 3 _ rfl; (with_reducible repeat (first | refine blk_drewN ?_ _ | refine blk_drew ?_ | refine blk_alloc ?_ _)); refine blk_put (cs := #[.string a1_0, .string ((rd_T101 ((rd_T105 l0_0 x30_1).f2) x37_2).f4), .int .i64 0, .int .i64 0, .int .i64 0]) ?_ 2 _ rfl; (with_reducible repeat (first | refine blk_drewN ?_ _ | refine blk_drew ?_ | refine blk_alloc ?_ _)); refine blk_put (cs := #[.string a1_0, .string (⟨#[]⟩ : ByteArray), .int .i64 0, .int .i64 0, .int .i64 0]) ?_ 1 _ rfl; (with_reducible repeat (first | refine blk_drewN ?_ _ | refine blk_drew ?_ | refine blk_alloc ?_ _)); refine blk_put (cs := #[.string (⟨#[]⟩ : ByteArray), .string (⟨#[]⟩ : ByteArray), .int .i64 0, .int .i64 0, .int .i64 0]) ?_ 0 _ rfl; (with_reducible repeat (first | refine blk_drewN ?_ _ | refine blk_drew ?_ | refine blk_alloc ?_ _)); exact BK528.out)) : gb529 ≠ gb528)); clear BK515 BK516 BK518 BK520 BK522 BK523 BK525 BK528 HB; rename_i BK515 BK516 BK518 BK520 BK522 BK523 BK525 BK528 HB BK529 GW529 GE529 NB515_529 NB529_515 NB516_529 NB529_516 NB518_529 NB529_518 NB520_529 NB529_520 NB522_529 NB529_522 NB523_529 NB529_523 NB525_529 NB529_525 NB528_529 NB529_528; clear hb hbox hg; have hnb198 := NB529_515.out; have hnc198 := NB515_529.out; have hnb199 := NB529_516.out; have hnc199 := NB516_529.out; have hnb200 := NB529_518.out; have hnc200 := NB518_529.out; have hnb201 := NB529_520.out; have hnc201 := NB520_529.out; have hnb202 := NB529_522.out; have hnc202 := NB522_529.out; have hnb203 := NB529_523.out; have hnc203 := NB523_529.out; have hnb204 := NB529_525.out; have hnc204 := NB525_529.out; have hnb205 := NB529_528.out; have hnc205 := NB528_529.out; obtain ⟨hcz206_0, hcz206_1, hcz206_2, hcz206_3, hcz206_4, hfz206_0, hfz206_1, hfz206_2, hfz206_3, hfz206_4⟩ := zc5 BK529; obtain ⟨hcz207_0, hcz207_1, hcz207_2, hcz207_3, hcz207_4, hcz207_5, hfz207_0, hfz207_1, hfz207_2, hfz207_3, hfz207_4, hfz207_5⟩ := zc6 BK522; obtain ⟨hcz208_0, hcz208_1, hcz208_2, hcz208_3, hcz208_4, hfz208_0, hfz208_1, hfz208_2, hfz208_3, hfz208_4⟩ := zc5 BK528) | ((at_mapUpdate; refine Mp.updA_event (M := x519000_3) ?hgm210 ?omm210 ?oxm210 ?ovm210 ?hom210 ?hdm210 (((rd_T101 ((rd_T105 l0_0 x30_1).f2) x37_2).f4)) (⟨a1_0, ((rd_T101 ((rd_T105 l0_0 x30_1).f2) x37_2).f4), t526, x62_3, ((rd_T101 ((rd_T105 l0_0 x30_1).f2) x37_2).f5)⟩ : S49) ?hmm210 ?hxm210 ?hvm210 (Mp.mb BK518) ?_; (case hgm210 => rfl); (case hom210 => rfl); (case hdm210 => rfl); (case hmm210 => rfl); (case hxm210 => first | rfl | (go_simp; done) | (go_simp; rfl)); (case hvm210 => first | rfl | (go_simp; done) | (go_simp; rfl))); intro w209 hbox hg; have _ := ra (blk_grown (g := gb515) (o := .cells #[.slice (some ad519) l0_0.length c0_0] 65 (0, 0)) (bk BK515) hg (by simpa using NB515_518.out)); have _ := ra (blk_grown (g := gb516) (o := .cells #[.string a1_0, .slice (some ad524) l1_1.length c1_1] 40 (0, 0)) (bk BK516) hg (by simpa using NB516_518.out)); have _ := ra (blk_grown (g := gb520) (o := .cells #[.int .i64 ((rd_T105 l0_0 x30_1).f0), .int .i64 ((rd_T105 l0_0 x30_1).f1), .slice (some ad521) ((rd_T105 l0_0 x30_1).f2).length c519_2] 105 (0, 0)) (bk BK520) hg (by simpa using NB520_518.out)); have _ := ra (blk_grown (g := gb522) (o := .cells #[.int .i64 ((rd_T101 ((rd_T105 l0_0 x30_1).f2) x37_2).f0), .int .i64 ((rd_T101 ((rd_T105 l0_0 x30_1).f2) x37_2).f1), .int .i64 ((rd_T101 ((rd_T105 l0_0 x30_1).f2) x37_2).f2), .int .i64 ((rd_T101 ((rd_T105 l0_0 x30_1).f2) x37_2).f3), .string ((rd_T101 ((rd_T105 l0_0 x30_1).f2) x37_2).f4), .int .i64 ((rd_T101 ((rd_T105 l0_0 x30_1).f2) x37_2).f5)] 101 (0, 0)) (bk BK522) hg (by simpa using NB522_518.out)); have _ := ra (blk_grown (g := gb523) (o := .cells #[.int .i64 ((rd_T105 l0_0 x30_1).f0), .int .i64 ((rd_T105 l0_0 x30_1).f1), .int .i64 ((rd_T101 ((rd_T105 l0_0 x30_1).f2) x37_2).f2), .int .i64 ((rd_T101 ((rd_T105 l0_0 x30_1).f2) x37_2).f3), .int .i64 ((rd_T101 ((rd_T105 l0_0 x30_1).f2) x37_2).f0), .int .i64 ((rd_T101 ((rd_T105 l0_0 x30_1).f2) x37_2).f1)] 95 (0, 0)) (bk BK523) hg (by simpa using NB523_518.out)); have _ := ra (blk_grown (g := gb525) (o := .cells #[.int .i64 ((rd_T95 l1_1 x62_3).f0), .int .i64 ((rd_T95 l1_1 x62_3).f1), .int .i64 ((rd_T95 l1_1 x62_3).f2), .int .i64 ((rd_T95 l1_1 x62_3).f3), .int .i64 ((rd_T95 l1_1 x62_3).f4), .int .i64 ((rd_T95 l1_1 x62_3).f5)] 95 (0, 0)) (bk BK525) hg (by simpa using NB525_518.out)); have _ := ra (blk_grown (g := gb528) (o := .cells #[.string a1_0, .string ((rd_T101 ((rd_T105 l0_0 x30_1).f2) x37_2).f4), .int .i64 t526, .int .i64 x62_3, .int .i64 ((rd_T101 ((rd_T105 l0_0 x30_1).f2) x37_2).f5)] 49 (0, 0)) (bk BK528) hg (by simpa using NB528_518.out)); have _ := ra (blk_grown (g := gb529) (o := .cells #[.string ((Mp.mget x519000_3 ((rd_T101 ((rd_T105 l0_0 x30_1).f2) x37_2).f4)).f0), .string ((Mp.mget x519000_3 ((rd_T101 ((rd_T105 l0_0 x30_1).f2) x37_2).f4)).f1), .int .i64 ((Mp.mget x519000_3 ((rd_T101 ((rd_T105 l0_0 x30_1).f2) x37_2).f4)).f2), .int .i64 ((Mp.mget x519000_3 ((rd_T101 ((rd_T105 l0_0 x30_1).f2) x37_2).f4)).f3), .int .i64 ((Mp.mget x519000_3 ((rd_T101 ((rd_T105 l0_0 x30_1).f2) x37_2).f4)).f4)] 49 (0, 0)) (by (with_reducible repeat (first | refine blk_drewN ?_ _ | refine blk_drew ?_ | refine blk_alloc ?_ _)); refine blk_put (cs := #[.string ((Mp.mget x519000_3 ((rd_T101 ((rd_T105 l0_0 x30_1).f2) x37_2).f4)).f0), .string ((Mp.mget x519000_3 ((rd_T101 ((rd_T105 l0_0 x30_1).f2) x37_2).f4)).f1), .int .i64 ((Mp.mget x519000_3 ((rd_T101 ((rd_T105 l0_0 x30_1).f2) x37_2).f4)).f2), .int .i64 ((Mp.mget x519000_3 ((rd_T101 ((rd_T105 l0_0 x30_1).f2) x37_2).f4)).f3), .int .i64 0]) ?_ 4 _ rfl; (with_reducible repeat (first | refine blk_drewN ?_ _ | refine blk_drew ?_ | refine blk_alloc ?_ _)); refine blk_put (cs := #[.string ((Mp.mget x519000_3 ((rd_T101 ((rd_T105 l0_0 x30_1).f2) x37_2).f4)).f0), .string ((Mp.mget x519000_3 ((rd_T101 ((rd_T105 l0_0 x30_1).f2) x37_2).f4)).f1), .int .i64 ((Mp.mget x519000_3 ((rd_T101 ((rd_T105 l0_0 x30_1).f2) x37_2).f4)).f2), .int .i64 0, .int .i64 0]) ?_ 3 _ rfl; (with_reducible repeat (first | refine blk_drewN ?_ _ | refine blk_drew ?_ | refine blk_alloc ?_ _)); refine blk_put (cs := #[.string ((Mp.mget x519000_3 ((rd_T101 ((rd_T105 l0_0 x30_1).f2) x37_2).f4)).f0), .string ((Mp.mget x519000_3 ((rd_T101 ((rd_T105 l0_0 x30_1).f2) x37_2).f4)).f1), .int .i64 0, .int .i64 0, .int .i64 0]) ?_ 2 _ rfl; (with_reducible repeat (first | refine blk_drewN ?_ _ | refine blk_drew ?_ | refine blk_alloc ?_ _)); refine blk_put (cs := #[.string ((Mp.mget x519000_3 ((rd_T101 ((rd_T105 l0_0 x30_1).f2) x37_2).f4)).f0), .string (⟨#[]⟩ : ByteArray), .int .i64 0, .int .i64 0, .int .i64 0]) ?_ 1 _ rfl; (with_reducible repeat (first | refine blk_drewN ?_ _ | refine blk_drew ?_ | refine blk_alloc ?_ _)); refine blk_put (cs := #[.string (⟨#[]⟩ : ByteArray), .string (⟨#[]⟩ : ByteArray), .int .i64 0, .int .i64 0, .int .i64 0]) ?_ 0 _ rfl; (with_reducible repeat (first | refine blk_drewN ?_ _ | refine blk_drew ?_ | refine blk_alloc ?_ _)); exact BK529.out) hg (by simpa using NB529_518.out)); have _ := ra (hbox); have _ := ra (Below.grown bq hg (below_size bq) (fun j hj => by cases hj; exact GE518.out)); clear BK515 BK516 BK520 BK522 BK523 BK525 BK528 BK529 BK518 HB; rename_i BK515 BK516 BK520 BK522 BK523 BK525 BK528 BK529 BK518 HB; clear hbox hg))
                    go_roundg k3
                    case measure => have := HK1.out; have := HK2.out; have := HK3.out; omega
                    case rel => exact ⟨(wrap64 (x62_3 + 1)), (Mp.mput x519000_3 ((rd_T101 ((rd_T105 l0_0 x30_1).f2) x37_2).f4) (⟨a1_0, ((rd_T101 ((rd_T105 l0_0 x30_1).f2) x37_2).f4), t526, x62_3, ((rd_T101 ((rd_T105 l0_0 x30_1).f2) x37_2).f5)⟩ : S49)), rs, H', ⟨by have := HK1.out; have := HK2.out; have := HK3.out; omega⟩, ⟨bk BK515⟩, ⟨bk BK516⟩, ⟨Mp.mb BK518⟩, ⟨bk BK520⟩, ⟨bk BK522⟩, ⟨bk BK523⟩, ⟨bq⟩⟩
                  ·replace c60 := Bool.eq_false_iff.mpr c60
                   subst c60
                   have H1 : (impl_ProbeAsk.l2 k3 l0_0 (l0_0.length : Int) x30_1 ((rd_T105 l0_0 x30_1).f2) (((rd_T105 l0_0 x30_1).f2).length : Int) x37_2 l1_1 (l1_1.length : Int) (wrap64 (x62_3 + 1)) a1_0 l1_1 x519000_3 ((rd_T105 l0_0 x30_1).f0) ((rd_T105 l0_0 x30_1).f1) ((rd_T105 l0_0 x30_1).f2) ((rd_T101 ((rd_T105 l0_0 x30_1).f2) x37_2).f0) ((rd_T101 ((rd_T105 l0_0 x30_1).f2) x37_2).f1) ((rd_T101 ((rd_T105 l0_0 x30_1).f2) x37_2).f2) ((rd_T101 ((rd_T105 l0_0 x30_1).f2) x37_2).f3) ((rd_T101 ((rd_T105 l0_0 x30_1).f2) x37_2).f4) ((rd_T101 ((rd_T105 l0_0 x30_1).f2) x37_2).f5) ((rd_T105 l0_0 x30_1).f0) ((rd_T105 l0_0 x30_1).f1) ((rd_T101 ((rd_T105 l0_0 x30_1).f2) x37_2).f2) ((rd_T101 ((rd_T105 l0_0 x30_1).f2) x37_2).f3) ((rd_T101 ((rd_T105 l0_0 x30_1).f2) x37_2).f0) ((rd_T101 ((rd_T105 l0_0 x30_1).f2) x37_2).f1)) = some r := by rw [if_neg (show ¬ (false = true) by decide)] at H; exact H
                   clear H
                   have H := H1
                   clear H1
                   have H' := Aside0.mk H
                   clear H
                   have p524 : 0 ≤ (x62_3 : Int) := od
                   have q524 : x62_3 < (l1_1.length : Int) := od
                   obtain ⟨ad524, e524, hx524_0, hx524_1, hx524_2, hx524_3, hx524_4, hx524_5⟩ := at_T95 HR1_1.out x62_3 p524 q524
                   cases e524
                   replace hx524_0 := hc HB hx524_0
                   replace hx524_1 := hc HB hx524_1
                   replace hx524_2 := hc HB hx524_2
                   replace hx524_3 := hc HB hx524_3
                   replace hx524_4 := hc HB hx524_4
                   replace hx524_5 := hc HB hx524_5
                   replace p524 := eq_true p524
                   replace q524 := eq_true q524
                   go_wp2_with (first | ((with_reducible refine gate_dst (N := 12) rfl ?_); refine be 12 #[.int .i64 0, .int .i64 0, .int .i64 0, .int .i64 0, .int .i64 0, .int .i64 0] 95 ?_; intro gb525 hg w211 hbox hb; have _ := bb (bk BK515) hb; have _ := bb (bk BK516) hb; have _ := bb (Mp.mb BK518) hb; have _ := bb (bk BK520) hb; have _ := bb (bk BK522) hb; have _ := bb (bk BK523) hb; have _ := bs hb; have _ := ra (hbox); have _ := bz (w0 := w) hg; have _ := bz (w0 := w) hg; have _ := bn hg (bk BK515); have _ := bm hg (bk BK515); have _ := bn hg (bk BK516); have _ := bm hg (bk BK516); have _ := Mp.mn hg (Mp.mb BK518); have _ := Mp.mm hg (Mp.mb BK518); have _ := bn hg (bk BK520); have _ := bm hg (bk BK520); have _ := bn hg (bk BK522); have _ := bm hg (bk BK522); have _ := bn hg (bk BK523); have _ := bm hg (bk BK523); clear BK515 BK516 BK518 BK520 BK522 BK523 HB; rename_i BK515 BK516 BK518 BK520 BK522 BK523 HB BK525 GW525 GE525 NB515_525 NB525_515 NB516_525 NB525_516 NB518_525 NB525_518 NB520_525 NB525_520 NB522_525 NB525_522 NB523_525 NB525_523; clear hb hbox hg; have hnb212 := NB525_515.out; have hnc212 := NB515_525.out; have hnb213 := NB525_516.out; have hnc213 := NB516_525.out; have hnb214 := NB525_518.out; have hnc214 := NB518_525.out; have hnb215 := NB525_520.out; have hnc215 := NB520_525.out; have hnb216 := NB525_522.out; have hnc216 := NB522_525.out; have hnb217 := NB525_523.out; have hnc217 := NB523_525.out; obtain ⟨hcz218_0, hcz218_1, hcz218_2, hcz218_3, hcz218_4, hcz218_5, hfz218_0, hfz218_1, hfz218_2, hfz218_3, hfz218_4, hfz218_5⟩ := zc6 BK525; have hnb219 := NB523_515.out; have hnc219 := NB515_523.out; have hnb220 := NB523_516.out; have hnc220 := NB516_523.out; have hnb221 := NB523_518.out; have hnc221 := NB518_523.out; have hnb222 := NB523_520.out; have hnc222 := NB520_523.out; have hnb223 := NB523_522.out; have hnc223 := NB522_523.out; obtain ⟨hcz224_0, hcz224_1, hcz224_2, hcz224_3, hcz224_4, hcz224_5, hfz224_0, hfz224_1, hfz224_2, hfz224_3, hfz224_4, hfz224_5⟩ := zc6 BK523) | ((with_reducible refine gate_callee (f := 76) rfl ?_); refine gl (some 70) Try.func76 #[.agg #[.int .i64 ((rd_T95 l1_1 x62_3).f0), .int .i64 ((rd_T95 l1_1 x62_3).f1), .int .i64 ((rd_T95 l1_1 x62_3).f2), .int .i64 ((rd_T95 l1_1 x62_3).f3), .int .i64 ((rd_T95 l1_1 x62_3).f4), .int .i64 ((rd_T95 l1_1 x62_3).f5)], .agg #[.int .i64 ((rd_T105 l0_0 x30_1).f0), .int .i64 ((rd_T105 l0_0 x30_1).f1), .int .i64 ((rd_T101 ((rd_T105 l0_0 x30_1).f2) x37_2).f2), .int .i64 ((rd_T101 ((rd_T105 l0_0 x30_1).f2) x37_2).f3), .int .i64 ((rd_T101 ((rd_T105 l0_0 x30_1).f2) x37_2).f0), .int .i64 ((rd_T101 ((rd_T105 l0_0 x30_1).f2) x37_2).f1)]] ?_; (with_reducible refine (impl_ProbeClose.calls k3 ((rd_T95 l1_1 x62_3).f0) ((rd_T95 l1_1 x62_3).f1) ((rd_T95 l1_1 x62_3).f2) ((rd_T95 l1_1 x62_3).f3) ((rd_T95 l1_1 x62_3).f4) ((rd_T95 l1_1 x62_3).f5) ((rd_T105 l0_0 x30_1).f0) ((rd_T105 l0_0 x30_1).f1) ((rd_T101 ((rd_T105 l0_0 x30_1).f2) x37_2).f2) ((rd_T101 ((rd_T105 l0_0 x30_1).f2) x37_2).f3) ((rd_T101 ((rd_T105 l0_0 x30_1).f2) x37_2).f0) ((rd_T101 ((rd_T105 l0_0 x30_1).f2) x37_2).f1) t526 false _ A59.out).mono ?_); rintro e w225 ⟨rfl, hb⟩; refine ⟨_, rfl, ?_⟩; have _ := bb (bk BK515) hb; have _ := bb (bk BK516) hb; have _ := bb (Mp.mb BK518) hb; have _ := bb (bk BK520) hb; have _ := bb (bk BK522) hb; have _ := bb (bk BK523) hb; have _ := bb (o := .cells #[.int .i64 ((rd_T95 l1_1 x62_3).f0), .int .i64 ((rd_T95 l1_1 x62_3).f1), .int .i64 ((rd_T95 l1_1 x62_3).f2), .int .i64 ((rd_T95 l1_1 x62_3).f3), .int .i64 ((rd_T95 l1_1 x62_3).f4), .int .i64 ((rd_T95 l1_1 x62_3).f5)] 95 (0, 0)) (bp BK525) hb; have _ := bs hb; clear BK515 BK516 BK518 BK520 BK522 BK523 BK525 HB; rename_i BK515 BK516 BK518 BK520 BK522 BK523 BK525 HB; (try clear hb); (try clear hb2); (try clear hk); (try clear hi)))
                   go_roundg k3
                   case measure => have := HK1.out; have := HK2.out; have := HK3.out; omega
                   case rel => exact ⟨(wrap64 (x62_3 + 1)), (x519000_3), rs, H', ⟨by have := HK1.out; have := HK2.out; have := HK3.out; omega⟩, ⟨bk BK515⟩, ⟨bk BK516⟩, ⟨Mp.mb BK518⟩, ⟨bk BK520⟩, ⟨bk BK522⟩, ⟨bk BK523⟩, ⟨bq⟩⟩
                 ·rw [if_neg c58] at H
                  exact absurd H (by simp)
                ·rw [if_neg c57] at H
                 exact absurd H (by simp)
               ·rw [if_neg c56] at H
                have c56b0 : decide (x62_3 < (l1_1.length : Int)) = false := decide_eq_false c56
                clear c56
                have H' := Aside0.mk H
                clear H
                go_wp2
                go_roundg k3
                case measure => have := HK1.out; have := HK2.out; have := HK3.out; omega
                case rel => exact ⟨(wrap64 (x37_2 + 1)), (x519000_3), rs, H', ⟨by have := HK1.out; have := HK2.out; have := HK3.out; omega⟩, ⟨bk BK515⟩, ⟨bk BK516⟩, ⟨Mp.mb BK518⟩, ⟨bk BK520⟩, ⟨bq⟩⟩
           ·rw [if_neg c23] at H
            exact absurd H (by simp)
          ·rw [if_neg c22] at H
           exact absurd H (by simp)
         ·rw [if_neg c21] at H
          have c21b0 : decide (x37_2 < (((rd_T105 l0_0 x30_1).f2).length : Int)) = false := decide_eq_false c21
          clear c21
          have H' := Aside0.mk H
          clear H
          go_wp2
          go_roundg k2
          case measure => have := HK1.out; have := HK2.out; omega
          case rel => exact ⟨(wrap64 (x30_1 + 1)), (x519000_2), rs, H', ⟨by have := HK1.out; have := HK2.out; omega⟩, ⟨bk BK515⟩, ⟨bk BK516⟩, ⟨Mp.mb BK518⟩, ⟨bq⟩⟩
      ·rw [if_neg c15] at H
       exact absurd H (by simp)
     ·rw [if_neg c14] at H
      exact absurd H (by simp)
    ·rw [if_neg c13] at H
     have c13b0 : decide (x30_1 < (l0_0.length : Int)) = false := decide_eq_false c13
     clear c13
     obtain ⟨t531, A226, H⟩ := bo H
     obtain ⟨y534, hy_⟩ : ∃ y_ : List (S49), y_ = (([] : List (S49))) := ⟨_, rfl⟩
     replace H : (impl_ProbeAsk.l3 k1 y534 t531 (t531.length : Int) 0 x519000_1) = some r := yh
     have Ny534 := ra hy_
     clear hy_
     have H' := Aside0.mk H
     clear H
     obtain ⟨wq, hwq⟩ : ∃ x : World, x = wr := ⟨_, rfl⟩
     subst hwq
     obtain ⟨⟨hsM, hnM, hlM⟩, htM0⟩ := Mp.mnames_inv A226.out
     have htM := Aside0.mk htM0
     clear htM0
     obtain ⟨i0, hi, hz0, hz1, hz2⟩ := info_parts info9
     go_wp2_with (first | ((with_reducible refine gate_dst (N := 105) rfl ?_); refine Kd.R_lit Kd.string (w0 := wq) wq.heap.size 9 ?hg (N := 105) ?hd (xs := ([] : List ByteArray)) (inner := []) (ok := fun _ => True) (okp := fun _ => True) ?hr ?hp (fun _ hk => hk) trivial (Below.refl _ _) (Nat.le_refl _) (by simp) ?_; (case hd => rfl); (case hg => rfl); (case hr => first | (go_simp; done) | (go_simp; rfl)); (case hp => exact (Reps.none _ _)); intro vK wK hoK hbK hgK hnK; have hMK := bb (Mp.mb BK518) hbK) | (at_range; refine wpList_range_own _ rfl _ 113 rfl 9 49 Mp.law9 Mp.under113 Mp.Rc gb518 x519000_1.length (Mp.mdat x519000_1) rfl (Mp.owns hMK.out hsM hnM hlM) ?_; intro wI hrg0 hg0 hs0))
     go_frame
     have hrow0 : wI.ownsRow wq.heap.size 9 1 vK 0 [] := by simpa [encs] using Kd.own_of_R (Kd.R_grown hoK hg0 (fun _ _ => by simp))
     have hnn0 : vK ≠ .slice none 0 0 := fun e => by obtain ⟨b, hb, _⟩ := hnK; rw [e] at hb; simp [Value.ownBlock] at hb
     have hbI : Below wq.heap.size wq wI := hbK.grown hg0 hbK.size (fun j hj => by cases hj)
     have hbl : gb518 < wq.heap.size := blk_lt (Mp.mb BK518)
     clear hoK hgK hnK
     go_loopw [18] (fun v w' => ∃ (left : Lit → Bool) (cnt : Nat) (ss : List (List UInt8)), w'.ranges Try.prog 9 Mp.Rc gb518 wK.heap.size x519000_1.length (Mp.mdat x519000_1) left cnt ∧ ss.length + cnt ≤ Maps.size (Mp.mdat x519000_1) ∧ w'.ownsRow wq.heap.size 9 1 v ss.length (ss.map encStr) ∧ v ≠ .slice none 0 0 ∧ Collected (Mp.mdat x519000_1) left ss ∧ Below wq.heap.size wq w') (fun _ w' => w'.rangeLeft gb518 wK.heap.size)
     case atStart => exact ⟨_, _, [], hrg0, by simp, hrow0, hnn0, Collected.start _, hbI⟩
     case round =>
      obtain ⟨left, cnt, ss, hrg, hcs, hrow, hnn, hC, hnx⟩ := hrel
      go_wp2_with (first | (at_next; refine wpList_next_ranges _ rfl _ rfl 9 Mp.law9 Mp.Rc encStr (fun v : Value => v) (fun key kl hk => by obtain ⟨x, hx, _⟩ := Maps.keyOf_str Mp.under9 hk; exact ⟨x, hx⟩) (fun v y hv => ⟨v, rfl⟩) gb518 wK.heap.size _ _ _ _ rfl hrg ?_ ?_))
      rotate_left
      ·intro x c kl yd yp w2 cnt2 hkey hlk hv hat hrg2 hlt hg2 hs2 hen
       obtain ⟨x', ex, rfl, _⟩ := Maps.keyOf_str Mp.under9 hkey
       obtain rfl : x = x' := encStr_inj ex
       have hrow2 := hrow.kept hg2 (Or.inr (row_ne_iter hrow hrg).symm)
       have hszD : Maps.size (Mp.mdat x519000_1) ≤ 1000000000 := by rw [Mp.size_mdat]; exact hlM
       clear hs2
       go_wp2_with (first | (at_builtin; refine wpList_append_own _ rfl _ _ 109 rfl wq.heap.size 9 i0 (.string ⟨#[]⟩) 1 16 Try.underlying109 hi hz0 hz1 hz2 rfl (by decide) _ _ _ rfl (hrow2.alloc _) ⟨w2.heap.size, 0, none⟩ 1 1 [encStr x] rfl rfl (cell_one_new _ _ _) (by simp [Value.oneCell', encStr]) (by unfold maxLen at *; omega) (by omega) (by have := hnx.size; have := hg2.size; simp; omega) ?_; intro v' w3 hown' hg3 hnil3; go_frame))
       have hrg3 := (hrg2.alloc _).kept hg3 (row_ne_low hrow2 hbl) (row_ne_iter hrow2 hrg2)
       go_roundw
       case rel =>
        refine ⟨_, cnt2, ss ++ [x], hrg3, by simp; omega, by simpa using hown', fun hv' => by have := (hnil3.1 hv').2; omega, hC.step hlk hat, ?_⟩
        exact ((hnx.grown hg2 hnx.size (fun j hj => by cases hj; exact hbK.size)).alloc (by have := hnx.size; have := hg2.size; omega) _).grown hg3 (by have := hnx.size; have := hg2.size; simp; omega) (fun j hj => (hrow2.lt j hj).1)
       case measure => rw [hrg3.left_eq, hrg.left_eq]; exact hlt
      intro hc0 hl0
      rcases hrow.2 with ⟨hnil, _⟩ | ⟨g, cap, cur, rfl, hbase, hb, h1, h2, h3, h4⟩
      ·exact absurd hnil hnn
      have hH : Go.Sort.Holds encStr wr g 0 ss.toArray := holds_of_block hb (by simpa using h4)
      have hgl : g < wr.heap.size := (Array.getElem?_eq_some_iff.1 hb).1
      have hszD : Maps.size (Mp.mdat x519000_1) ≤ 1000000000 := by rw [Mp.size_mdat]; exact hlM
      have hsc := Mp.sort78 (cap := cap) hH hgl (by omega)
      have hper := (hC.perm hrg.owns Mp.law9 Mp.under9 hl0).trans (Mp.keys_perm hsM)
      go_wp2_with (first | (go_at_call 78; refine hsc.mono ?_; rintro e w222 ⟨rfl, nn, os, hw222⟩; have hg222 := (grownBy_sorted (w := wr) (g := g) (n := nn) (os := os) (ss.mergeSort leB).toArray); have hs222 := (ownsRow_sorted (n := nn) (os := os) (ts := ss.mergeSort leB) (by simp) hbase hb h1 h2 h3); rw [← hw222] at hg222 hs222; clear hw222; obtain ⟨v532, hv532⟩ : ∃ x, x = (.slice (some ⟨g, 0, none⟩) ss.length cap : Value) := ⟨_, rfl⟩; rw [← hv532]; rw [← hv532] at hs222; clear hv532; have ho0 := (Mp.own_sorted hper htM.out hs222); have hb : Below wq.heap.size wq w222 := hnx.grown hg222 hnx.size (fun j hj => by cases hj; exact hbase); have _ := ra (Kd.R_lower ho0 (below_size bq)); have _ := bb (bk BK515) hb; have _ := bb (bk BK516) hb; have _ := bb (Mp.mb BK518) hb; have _ := bs hb; clear BK515 BK516 BK518 HB; rename_i HO533 BK515 BK516 BK518 HB; (try clear hb); (try clear hb2); (try clear hk); (try clear hi); (try clear ho0)) | ((with_reducible refine gate_dst (N := 118) rfl ?_); refine Kd.R_lit k49 _ 49 ?hg (N := 118) ?hd (xs := ([] : List (S49))) (inner := []) (ok := fun _ => True) (okp := fun _ => True) ?hr ?hp (fun _ hk => hk) trivial (Below.refl _ _) (Nat.le_refl _) (by simp) ?_; (case hd => rfl); (case hg => rfl); (case hr => first | (go_simp; done) | (go_simp; rfl)); (case hp => exact (Reps.none _ _)); intro v535 w228 ho229 hb hg_ hnew_; clear hg_ hnew_; (first | rw [← Ny534.out] at ho229 | (simp only [Int.reduceToNat] at ho229; rw [← Ny534.out] at ho229)); have _ := ra (Kd.R_below (rq HO533) hb); have _ := ra (Kd.R_lower ho229 (below_size bq)); have _ := bb (bk BK515) hb; have _ := bb (bk BK516) hb; have _ := bb (Mp.mb BK518) hb; have _ := bs hb; clear HO533 BK515 BK516 BK518 HB; rename_i HO533 HO536 BK515 BK516 BK518 HB; clear hb ho229; obtain ⟨Ao230, co230, eo230⟩ := Kd.R_slice HO533.out; subst eo230))
      go_loopg [20, 121] k1 (fun kq v20 v121 w' => ∃ (x20_2 : List (S49)) (x121_2 : Int), v121 = .int .i64 x121_2 ∧ Aside0 (impl_ProbeAsk.l3 kq x20_2 t531 (t531.length : Int) x121_2 x519000_1 = some r) ∧ Aside0 (kq ≤ k1) ∧ Aside0 (Kd.R k49 49 w' w.heap.size (fun _ => True) v20 x20_2) ∧ Aside0 (Kd.R Kd.string 9 w' w.heap.size (fun _ => True) (.slice Ao230 t531.length co230) t531) ∧ Aside0 (w'.heap[gb515]? = some (.cells #[(.slice A0_0 l0_0.length c0_0)] 65 (0, 0))) ∧ Aside0 (w'.heap[gb516]? = some (.cells #[.string a1_0, (.slice A1_1 l1_1.length c1_1)] 40 (0, 0))) ∧ Aside0 (w'.heap[gb518]? = some (Mp.mobj x519000_1)) ∧ Aside0 (Below w.heap.size w w'))
      case atStart => exact ⟨(y534), (0), rs, H', ⟨Nat.le_refl _⟩, ⟨rq HO536⟩, ⟨rq HO533⟩, ⟨bk BK515⟩, ⟨bk BK516⟩, ⟨Mp.mb BK518⟩, ⟨bq⟩⟩
      case round =>
       clear H'
       try clear c4
       try clear c13
       try clear c13b0
       try clear c14
       try clear c14b0
       try clear c15
       try clear c15b0
       try clear c21
       try clear c21b0
       try clear c22
       try clear c22b0
       try clear c23
       try clear c23b0
       try clear c24
       try clear c24b0
       try clear c24b1
       try clear c56
       try clear c56b0
       try clear c57
       try clear c57b0
       try clear c58
       try clear c58b0
       try clear c60
       try clear c61
       try clear c61b0
       try clear c63
       try clear hcz108_0
       try clear hcz108_1
       try clear hcz108_2
       try clear hcz108_3
       try clear hcz108_4
       try clear hcz109_0
       try clear hcz109_1
       try clear hcz109_2
       try clear hcz109_3
       try clear hcz109_4
       try clear hcz111_0
       try clear hcz111_1
       try clear hcz111_2
       try clear hcz111_3
       try clear hcz111_4
       try clear hcz111_5
       try clear hcz112_0
       try clear hcz112_1
       try clear hcz112_2
       try clear hcz112_3
       try clear hcz112_4
       try clear hcz122_0
       try clear hcz122_1
       try clear hcz122_2
       try clear hcz122_3
       try clear hcz122_4
       try clear hcz122_5
       try clear hcz128_0
       try clear hcz128_1
       try clear hcz128_2
       try clear hcz128_3
       try clear hcz128_4
       try clear hcz128_5
       try clear hcz12_0
       try clear hcz134_0
       try clear hcz134_1
       try clear hcz138_0
       try clear hcz138_1
       try clear hcz138_2
       try clear hcz138_3
       try clear hcz138_4
       try clear hcz138_5
       try clear hcz147_0
       try clear hcz147_1
       try clear hcz147_2
       try clear hcz147_3
       try clear hcz147_4
       try clear hcz148_0
       try clear hcz148_1
       try clear hcz148_2
       try clear hcz148_3
       try clear hcz148_4
       try clear hcz148_5
       try clear hcz159_0
       try clear hcz159_1
       try clear hcz159_2
       try clear hcz159_3
       try clear hcz159_4
       try clear hcz160_0
       try clear hcz160_1
       try clear hcz160_2
       try clear hcz160_3
       try clear hcz160_4
       try clear hcz169_0
       try clear hcz169_1
       try clear hcz169_2
       try clear hcz169_3
       try clear hcz169_4
       try clear hcz169_5
       try clear hcz175_0
       try clear hcz175_1
       try clear hcz175_2
       try clear hcz175_3
       try clear hcz175_4
       try clear hcz175_5
       try clear hcz181_0
       try clear hcz181_1
       try clear hcz185_0
       try clear hcz185_1
       try clear hcz185_2
       try clear hcz185_3
       try clear hcz185_4
       try clear hcz185_5
       try clear hcz194_0
       try clear hcz194_1
       try clear hcz194_2
       try clear hcz194_3
       try clear hcz194_4
       try clear hcz195_0
       try clear hcz195_1
       try clear hcz195_2
       try clear hcz195_3
       try clear hcz195_4
       try clear hcz195_5
       try clear hcz206_0
       try clear hcz206_1
       try clear hcz206_2
       try clear hcz206_3
       try clear hcz206_4
       try clear hcz207_0
       try clear hcz207_1
       try clear hcz207_2
       try clear hcz207_3
       try clear hcz207_4
       try clear hcz207_5
       try clear hcz208_0
       try clear hcz208_1
       try clear hcz208_2
       try clear hcz208_3
       try clear hcz208_4
       try clear hcz20_0
       try clear hcz20_1
       try clear hcz20_2
       try clear hcz218_0
       try clear hcz218_1
       try clear hcz218_2
       try clear hcz218_3
       try clear hcz218_4
       try clear hcz218_5
       try clear hcz224_0
       try clear hcz224_1
       try clear hcz224_2
       try clear hcz224_3
       try clear hcz224_4
       try clear hcz224_5
       try clear hcz30_0
       try clear hcz30_1
       try clear hcz30_2
       try clear hcz30_3
       try clear hcz30_4
       try clear hcz30_5
       try clear hcz34_0
       try clear hcz34_1
       try clear hcz40_0
       try clear hcz40_1
       try clear hcz40_2
       try clear hcz40_3
       try clear hcz40_4
       try clear hcz40_5
       try clear hcz44_0
       try clear hcz44_1
       try clear hcz47_0
       try clear hcz47_1
       try clear hcz47_2
       try clear hcz54_0
       try clear hcz54_1
       try clear hcz54_2
       try clear hcz54_3
       try clear hcz54_4
       try clear hcz54_5
       try clear hcz55_0
       try clear hcz55_1
       try clear hcz71_0
       try clear hcz71_1
       try clear hcz71_2
       try clear hcz71_3
       try clear hcz71_4
       try clear hcz71_5
       try clear hcz77_0
       try clear hcz77_1
       try clear hcz77_2
       try clear hcz77_3
       try clear hcz77_4
       try clear hcz77_5
       try clear hcz83_0
       try clear hcz83_1
       try clear hcz87_0
       try clear hcz87_1
       try clear hcz87_2
       try clear hcz87_3
       try clear hcz87_4
       try clear hcz87_5
       try clear hcz8_0
       try clear hcz8_1
       try clear hcz96_0
       try clear hcz96_1
       try clear hcz96_2
       try clear hcz96_3
       try clear hcz96_4
       try clear hcz97_0
       try clear hcz97_1
       try clear hcz97_2
       try clear hcz97_3
       try clear hcz97_4
       try clear hcz97_5
       try clear hfz108_0
       try clear hfz108_1
       try clear hfz108_2
       try clear hfz108_3
       try clear hfz108_4
       try clear hfz109_0
       try clear hfz109_1
       try clear hfz109_2
       try clear hfz109_3
       try clear hfz109_4
       try clear hfz111_0
       try clear hfz111_1
       try clear hfz111_2
       try clear hfz111_3
       try clear hfz111_4
       try clear hfz111_5
       try clear hfz112_0
       try clear hfz112_1
       try clear hfz112_2
       try clear hfz112_3
       try clear hfz112_4
       try clear hfz122_0
       try clear hfz122_1
       try clear hfz122_2
       try clear hfz122_3
       try clear hfz122_4
       try clear hfz122_5
       try clear hfz128_0
       try clear hfz128_1
       try clear hfz128_2
       try clear hfz128_3
       try clear hfz128_4
       try clear hfz128_5
       try clear hfz12_0
       try clear hfz134_0
       try clear hfz134_1
       try clear hfz138_0
       try clear hfz138_1
       try clear hfz138_2
       try clear hfz138_3
       try clear hfz138_4
       try clear hfz138_5
       try clear hfz147_0
       try clear hfz147_1
       try clear hfz147_2
       try clear hfz147_3
       try clear hfz147_4
       try clear hfz148_0
       try clear hfz148_1
       try clear hfz148_2
       try clear hfz148_3
       try clear hfz148_4
       try clear hfz148_5
       try clear hfz159_0
       try clear hfz159_1
       try clear hfz159_2
       try clear hfz159_3
       try clear hfz159_4
       try clear hfz160_0
       try clear hfz160_1
       try clear hfz160_2
       try clear hfz160_3
       try clear hfz160_4
       try clear hfz169_0
       try clear hfz169_1
       try clear hfz169_2
       try clear hfz169_3
       try clear hfz169_4
       try clear hfz169_5
       try clear hfz175_0
       try clear hfz175_1
       try clear hfz175_2
       try clear hfz175_3
       try clear hfz175_4
       try clear hfz175_5
       try clear hfz181_0
       try clear hfz181_1
       try clear hfz185_0
       try clear hfz185_1
       try clear hfz185_2
       try clear hfz185_3
       try clear hfz185_4
       try clear hfz185_5
       try clear hfz194_0
       try clear hfz194_1
       try clear hfz194_2
       try clear hfz194_3
       try clear hfz194_4
       try clear hfz195_0
       try clear hfz195_1
       try clear hfz195_2
       try clear hfz195_3
       try clear hfz195_4
       try clear hfz195_5
       try clear hfz206_0
       try clear hfz206_1
       try clear hfz206_2
       try clear hfz206_3
       try clear hfz206_4
       try clear hfz207_0
       try clear hfz207_1
       try clear hfz207_2
       try clear hfz207_3
       try clear hfz207_4
       try clear hfz207_5
       try clear hfz208_0
       try clear hfz208_1
       try clear hfz208_2
       try clear hfz208_3
       try clear hfz208_4
       try clear hfz20_0
       try clear hfz20_1
       try clear hfz20_2
       try clear hfz218_0
       try clear hfz218_1
       try clear hfz218_2
       try clear hfz218_3
       try clear hfz218_4
       try clear hfz218_5
       try clear hfz224_0
       try clear hfz224_1
       try clear hfz224_2
       try clear hfz224_3
       try clear hfz224_4
       try clear hfz224_5
       try clear hfz30_0
       try clear hfz30_1
       try clear hfz30_2
       try clear hfz30_3
       try clear hfz30_4
       try clear hfz30_5
       try clear hfz34_0
       try clear hfz34_1
       try clear hfz40_0
       try clear hfz40_1
       try clear hfz40_2
       try clear hfz40_3
       try clear hfz40_4
       try clear hfz40_5
       try clear hfz44_0
       try clear hfz44_1
       try clear hfz47_0
       try clear hfz47_1
       try clear hfz47_2
       try clear hfz54_0
       try clear hfz54_1
       try clear hfz54_2
       try clear hfz54_3
       try clear hfz54_4
       try clear hfz54_5
       try clear hfz55_0
       try clear hfz55_1
       try clear hfz71_0
       try clear hfz71_1
       try clear hfz71_2
       try clear hfz71_3
       try clear hfz71_4
       try clear hfz71_5
       try clear hfz77_0
       try clear hfz77_1
       try clear hfz77_2
       try clear hfz77_3
       try clear hfz77_4
       try clear hfz77_5
       try clear hfz83_0
       try clear hfz83_1
       try clear hfz87_0
       try clear hfz87_1
       try clear hfz87_2
       try clear hfz87_3
       try clear hfz87_4
       try clear hfz87_5
       try clear hfz8_0
       try clear hfz8_1
       try clear hfz96_0
       try clear hfz96_1
       try clear hfz96_2
       try clear hfz96_3
       try clear hfz96_4
       try clear hfz97_0
       try clear hfz97_1
       try clear hfz97_2
       try clear hfz97_3
       try clear hfz97_4
       try clear hfz97_5
       try clear hx519_0
       try clear hx519_1
       try clear hx519_2
       try clear hx521_0
       try clear hx521_1
       try clear hx521_2
       try clear hx521_3
       try clear hx521_4
       try clear hx521_5
       try clear hx524_0
       try clear hx524_1
       try clear hx524_2
       try clear hx524_3
       try clear hx524_4
       try clear hx524_5
       try clear p519
       try clear p521
       try clear p524
       try clear q519
       try clear q521
       try clear q524
       obtain ⟨x20_2, x121_2, rfl, HA, HK2, HO_20, HO_119, BK515, BK516, BK518, HB⟩ := hrel
       cases gk with
       | zero => exact absurd HA.out (by simp [impl_ProbeAsk.l3])
       | succ k2 =>
        have H := HA.out
        clear HA
        simp only [impl_ProbeAsk.l3] at H
        by_cases c231 : x121_2 < (t531.length : Int)
        ·rw [if_pos c231] at H
         have c231b0 : decide (x121_2 < (t531.length : Int)) = true := decide_eq_true c231
         clear c231
         by_cases c232 : 0 ≤ x121_2
         ·rw [if_pos c232] at H
          have c232b0 : decide (0 ≤ x121_2) = true := decide_eq_true c232
          clear c232
          by_cases c233 : x121_2 < (t531.length : Int)
          ·rw [if_pos c233] at H
           have c233b0 : decide (x121_2 < (t531.length : Int)) = true := decide_eq_true c233
           clear c233
           by_cases c234 : x20_2.length < 2513169434916
           ·rw [if_pos c234] at H
            have LMc234 := Aside0.mk c234
            clear c234
            obtain ⟨y538, hy_⟩ : ∃ y_ : List (S49), y_ = (x20_2 ++ [(⟨(Mp.mget x519000_1 (rdOf ByteArray.empty t531 x121_2)).f0, (Mp.mget x519000_1 (rdOf ByteArray.empty t531 x121_2)).f1, (Mp.mget x519000_1 (rdOf ByteArray.empty t531 x121_2)).f2, (Mp.mget x519000_1 (rdOf ByteArray.empty t531 x121_2)).f3, (Mp.mget x519000_1 (rdOf ByteArray.empty t531 x121_2)).f4⟩ : S49)]) := ⟨_, rfl⟩
            replace H : (impl_ProbeAsk.l3 k2 y538 t531 (t531.length : Int) (wrap64 (x121_2 + 1)) x519000_1) = some r := yh
            have Ny538 := ra hy_
            clear hy_
            have H' := Aside0.mk H
            clear H
            have p537 : 0 ≤ (x121_2 : Int) := od
            have q537 : x121_2 < (t531.length : Int) := od
            obtain ⟨ad537, e537, hx537_0⟩ := Kd.at_string (Kd.R_reads' HO_119.out).2.2 x121_2 p537 q537
            cases e537
            replace p537 := eq_true p537
            replace q537 := eq_true q537
            go_wp2_with (first | ((with_reducible refine gate_dst (N := 128) rfl ?_); refine Mp.getA_event (M := x519000_1) ?hgm235 ?omm235 ?oxm235 ?hom235 (rdOf ByteArray.empty t531 x121_2) ?hmm235 ?hxm235 (Mp.mb BK518) ?_; (case hgm235 => rfl); (case hom235 => rfl); (case hmm235 => rfl); (case hxm235 => first | rfl | (go_simp; done) | (go_simp; rfl))) | ((with_reducible refine gate_builtin (b := .append) (xs := #[.tmp 125, .tmp 129]) rfl ?_); at_builtin; refine Kd.R_append k49 (w0 := w) w.heap.size rfl (.tmp 125) (.tmp 129) 24 49 (.agg #[(.string ⟨#[]⟩), (.string ⟨#[]⟩), (.int .i64 0), (.int .i64 0), (.int .i64 0)]) 56 rfl Try.underlying24 info49 rfl (by decide) (by omega) u20 x20_2 (⟨(Mp.mget x519000_1 (rdOf ByteArray.empty t531 x121_2)).f0, (Mp.mget x519000_1 (rdOf ByteArray.empty t531 x121_2)).f1, (Mp.mget x519000_1 (rdOf ByteArray.empty t531 x121_2)).f2, (Mp.mget x519000_1 (rdOf ByteArray.empty t531 x121_2)).f3, (Mp.mget x519000_1 (rdOf ByteArray.empty t531 x121_2)).f4⟩ : S49) [.string ((Mp.mget x519000_1 (rdOf ByteArray.empty t531 x121_2)).f0), .string ((Mp.mget x519000_1 (rdOf ByteArray.empty t531 x121_2)).f1), .int .i64 ((Mp.mget x519000_1 (rdOf ByteArray.empty t531 x121_2)).f2), .int .i64 ((Mp.mget x519000_1 (rdOf ByteArray.empty t531 x121_2)).f3), .int .i64 ((Mp.mget x519000_1 (rdOf ByteArray.empty t531 x121_2)).f4)] (fun _ => True) (fun _ => False) rfl rfl ?aP (fun _ hk => hk.elim) ?aF ?aO ?aB ?aS ?aL ?_; (case aP => exact k49_mkM _ _ _ (⟨(Mp.mget x519000_1 (rdOf ByteArray.empty t531 x121_2)).f0, (Mp.mget x519000_1 (rdOf ByteArray.empty t531 x121_2)).f1, (Mp.mget x519000_1 (rdOf ByteArray.empty t531 x121_2)).f2, (Mp.mget x519000_1 (rdOf ByteArray.empty t531 x121_2)).f3, (Mp.mget x519000_1 (rdOf ByteArray.empty t531 x121_2)).f4⟩ : S49)); (case aB => exact bq); (case aF => exact (fun _ _ => trivial)); (case aO => exact (rq HO_20)); (case aS => exact (below_size bq)); (case aL => have := LMc234.out; omega); intro v539 w236 ho hb hg hat; rw [← Ny538.out] at ho; have _ := ra (Kd.R_over' (rq HO_119) (Kd.R_typed (rq HO_20)) (by decide) hg); have _ := ra (blk_grown (g := gb515) (o := .cells #[.slice A0_0 l0_0.length c0_0] 65 (0, 0)) (bk BK515) hg (Kd.R_ne HO_20.out BK515.out (by decide))); have _ := ra (blk_grown (g := gb516) (o := .cells #[.string a1_0, .slice A1_1 l1_1.length c1_1] 40 (0, 0)) (bk BK516) hg (Kd.R_ne HO_20.out BK516.out (by decide))); have _ := ra (blk_grown (g := gb518) (o := Mp.mobj x519000_1) (Mp.mb BK518) hg (Mp.row_ne HO_20.out BK518.out)); have _ := ra (hb); have _ := ra (ho); clear HO_119 BK515 BK516 BK518 HB HO_20; rename_i HO_119 BK515 BK516 BK518 HB HO540; clear ho hb hg hat))
            go_roundg k2
            case measure => have := HK1.out; have := HK2.out; omega
            case rel => exact ⟨(y538), (wrap64 (x121_2 + 1)), rs, H', ⟨by have := HK1.out; have := HK2.out; omega⟩, ⟨rq HO540⟩, ⟨rq HO_119⟩, ⟨bk BK515⟩, ⟨bk BK516⟩, ⟨Mp.mb BK518⟩, ⟨bq⟩⟩
           ·rw [if_neg c234] at H
            exact absurd H (by simp)
          ·rw [if_neg c233] at H
           exact absurd H (by simp)
         ·rw [if_neg c232] at H
          exact absurd H (by simp)
        ·rw [if_neg c231] at H
         have c231b0 : decide (x121_2 < (t531.length : Int)) = false := decide_eq_false c231
         clear c231
         obtain rfl := Option.some.inj H
         go_wp2
         go_ret
         exact ⟨_, re, rq HO_20, bq⟩
 ·replace c4 := Bool.eq_false_iff.mpr c4
  subst c4
  have H1 : (some ([] : List (S49))) = some r := by rw [if_neg (show ¬ (false = true) by decide)] at H; exact H
  clear H
  have H := H1
  clear H1
  obtain rfl := Option.some.inj H
  go_enter Try.func44, Try.ntmps44
  go_wp2_with (first | ((with_reducible refine gate_dst (N := 2) rfl ?_); refine be 2 #[.slice A0_0 l0_0.length c0_0] 65 ?_; intro gb515 hg w237 hbox hb; have _ := bs hb; have _ := ra (hbox); have _ := bz (w0 := w) hg; have _ := bz (w0 := w) hg; clear HB; rename_i HB BK515 GW515 GE515; clear hb hbox hg) | ((with_reducible refine gate_dst (N := 3) rfl ?_); refine be 3 #[.string a1_0, .slice A1_1 l1_1.length c1_1] 40 ?_; intro gb516 hg w238 hbox hb; have _ := bb (bk BK515) hb; have _ := bs hb; have _ := ra (hbox); have _ := bz (w0 := w) hg; have _ := bz (w0 := w) hg; have _ := bn hg (bk BK515); have _ := bm hg (bk BK515); clear BK515 HB; rename_i BK515 HB BK516 GW516 GE516 NB515_516 NB516_515; clear hb hbox hg; have hnb239 := NB516_515.out; have hnc239 := NB515_516.out; obtain ⟨hcz240_0, hcz240_1, hfz240_0, hfz240_1⟩ := zc2 BK516) | ((with_reducible refine gate_callee (f := 54) rfl ?_); refine gl (some 24) Try.func54 #[.agg #[.string a1_0, .slice A1_1 l1_1.length c1_1]] ?_; (with_reducible refine (impl_ProbeTubeOk.calls k a1_0 _ _ l1_1 false _ ?side1 ?side2 A3.out).mono ?_); (case side1 => exact sc HR1_1); (case side2 => exact HC1_1.out); rintro e w241 ⟨rfl, hb⟩; refine ⟨_, rfl, ?_⟩; have _ := bb (bk BK515) hb; have _ := bb (bk BK516) hb; have _ := bs hb; clear BK515 BK516 HB; rename_i BK515 BK516 HB; (try clear hb); (try clear hb2); (try clear hk); (try clear hi)))
  go_ret
  exact ⟨_, re, by first | exact Kd.R_nil _ _ _ _ _ | exact Kd.N_nil _ _ _ _ _ | exact Kd.V_nil _ _ _ _ _ | exact Kd.Q_nil _ _ _ _ _ | exact Kd.S_nil _ _ _ _ _, bq⟩
end Go.Proofs.Ytdbomnhdpniigaa.PA
