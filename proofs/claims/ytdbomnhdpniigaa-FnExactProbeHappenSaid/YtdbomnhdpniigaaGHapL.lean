/- Contracts of the functions laws_szProbeEvent, laws_toProbeEvent, laws_eqProbeEvent, laws_markProbeEvent, laws_heldProbeTubeS. (Began as a print of the kit's tool.) -/
import Derived.Test.YtdbomnhdpniigaaPAd
import Derived.Test.YtdbomnhdpniigaaCx
import Derived.Test.YtdbomnhdpniigaaCy
import Derived.Test.YtdbomnhdpniigaaGConv
import Derived.Test.YtdbomnhdpniigaaGMark
import Derived.Test.YtdbomnhdpniigaaGMarks
namespace Go.Proofs.Ytdbomnhdpniigaa.PA
open Go.RowKit Go.Proofs.YtdbomnhdpniigaaW.PrintWords Go.Proofs.YtdbomnhdpniigaaW.PrintLast Go.Proofs.YtdbomnhdpniigaaW.PrintMore Go.Proofs.Ytdbomnhdpniigaa.Z
attribute [local go_sem] max2_int min2_int max_two min_two max_three min_three max_four min_four
set_option linter.unusedVariables false
set_option linter.unusedSimpArgs false
set_option maxHeartbeats 8000000 in
set_option maxRecDepth 100000 in
theorem laws_szProbeEvent.calls (a0_0 : Bool) (a0_1 : ByteArray) (A0_2 : Option Addr) (c0_2 : Nat) (l0_2 : List (S121)) (a1 : Int) (r : Int) (w : World) (hr0_2 : Kd.C k121 w A0_2 l0_2.length l0_2) (hc0_2 : l0_2.length ≤ c0_2) (h : laws_szProbeEvent.f a0_0 a0_1 l0_2 a1 = some r) :
  Calls Try.prog 30 #[.agg #[.bool a0_0, .string a0_1, .slice A0_2 l0_2.length c0_2], .int .i64 a1] w fun e w' => e = .returned (.int .i64 r) ∧ Below w.heap.size w w' := by
 have hu57 := Try.underlying57
 have hu35 := Try.underlying35
 have HR0_2 := Aside0.mk hr0_2
 have HC0_2 := Aside0.mk hc0_2
 clear hr0_2 hc0_2
 have HB := ra (Below.refl w.heap.size w)
 have H : ((laws_szProbeTube.f a0_1 l0_2 a1).bind fun t719 => (if t719 < 0 then (some (-1)) else (some t719))) = some r := h
 clear h
 obtain ⟨t719, A3, H⟩ := bo H
 by_cases c4 : t719 < 0
 ·rw [if_pos c4] at H
  have c4b0 : decide (t719 < 0) = true := decide_eq_true c4
  clear c4
  obtain rfl := Option.some.inj H
  go_enter Try.func30, Try.ntmps30
  go_wp2_with (first | ((with_reducible refine gate_dst (N := 2) rfl ?_); refine be 2 #[.bool a0_0, .string a0_1, .slice A0_2 l0_2.length c0_2] 57 ?_; intro gb718 hg w5 hbox hb; have _ := bs hb; have _ := ra (hbox); have _ := bz (w0 := w) hg; have _ := bz (w0 := w) hg; clear HB; rename_i HB BK718 GW718 GE718; clear hb hbox hg; have hcz6_0 : w5.cell? ⟨gb718, 0, none⟩ = some (.bool a0_0) := (blk_cell BK718.out 0).trans rfl; have hcz6_1 : w5.cell? ⟨gb718, 1, none⟩ = some (.string a0_1) := (blk_cell BK718.out 1).trans rfl; have hcz6_2 : w5.cell? ⟨gb718, 2, none⟩ = some (.slice A0_2 l0_2.length c0_2) := (blk_cell BK718.out 2).trans rfl; have hfz6_0 := blk_frozen BK718.out 0; have hfz6_1 := blk_frozen BK718.out 1; have hfz6_2 := blk_frozen BK718.out 2) | ((with_reducible refine gate_callee (f := 18) rfl ?_); refine gl (some 8) Try.func18 #[.agg #[.string a0_1, .slice A0_2 l0_2.length c0_2], .int .i64 a1] ?_; (with_reducible refine (laws_szProbeTube.calls a0_1 _ _ l0_2 a1 t719 _ ?side1 ?side2 A3.out).mono ?_); (case side1 => exact sc HR0_2); (case side2 => exact HC0_2.out); rintro e w7 ⟨rfl, hb⟩; refine ⟨_, rfl, ?_⟩; have _ := bb (bk BK718) hb; have _ := bs hb; clear BK718 HB; rename_i BK718 HB; (try clear hb); (try clear hb2); (try clear hk); (try clear hi)))
  go_ret
  exact ⟨re, bq⟩
 ·rw [if_neg c4] at H
  have c4b0 : decide (t719 < 0) = false := decide_eq_false c4
  clear c4
  obtain rfl := Option.some.inj H
  go_enter Try.func30, Try.ntmps30
  go_wp2_with (first | ((with_reducible refine gate_dst (N := 2) rfl ?_); refine be 2 #[.bool a0_0, .string a0_1, .slice A0_2 l0_2.length c0_2] 57 ?_; intro gb718 hg w8 hbox hb; have _ := bs hb; have _ := ra (hbox); have _ := bz (w0 := w) hg; have _ := bz (w0 := w) hg; clear HB; rename_i HB BK718 GW718 GE718; clear hb hbox hg; have hcz9_0 : w8.cell? ⟨gb718, 0, none⟩ = some (.bool a0_0) := (blk_cell BK718.out 0).trans rfl; have hcz9_1 : w8.cell? ⟨gb718, 1, none⟩ = some (.string a0_1) := (blk_cell BK718.out 1).trans rfl; have hcz9_2 : w8.cell? ⟨gb718, 2, none⟩ = some (.slice A0_2 l0_2.length c0_2) := (blk_cell BK718.out 2).trans rfl; have hfz9_0 := blk_frozen BK718.out 0; have hfz9_1 := blk_frozen BK718.out 1; have hfz9_2 := blk_frozen BK718.out 2) | ((with_reducible refine gate_callee (f := 18) rfl ?_); refine gl (some 8) Try.func18 #[.agg #[.string a0_1, .slice A0_2 l0_2.length c0_2], .int .i64 a1] ?_; (with_reducible refine (laws_szProbeTube.calls a0_1 _ _ l0_2 a1 t719 _ ?side1 ?side2 A3.out).mono ?_); (case side1 => exact sc HR0_2); (case side2 => exact HC0_2.out); rintro e w10 ⟨rfl, hb⟩; refine ⟨_, rfl, ?_⟩; have _ := bb (bk BK718) hb; have _ := bs hb; clear BK718 HB; rename_i BK718 HB; (try clear hb); (try clear hb2); (try clear hk); (try clear hi)))
  go_ret
  exact ⟨re, bq⟩
set_option maxHeartbeats 8000000 in
set_option maxRecDepth 100000 in
theorem laws_toProbeEvent.calls (k : Nat) (a0_0 : Bool) (a0_1 : ByteArray) (A0_2 : Option Addr) (c0_2 : Nat) (l0_2 : List (S121)) (r1 : Bool) (r2 : ByteArray) (r3 : List (S95)) (w : World) (hr0_2 : Kd.C k121 w A0_2 l0_2.length l0_2) (hc0_2 : l0_2.length ≤ c0_2) (h : laws_toProbeEvent.f k a0_0 a0_1 l0_2 = some (r1, r2, r3)) :
  Calls Try.prog 32 #[.agg #[.bool a0_0, .string a0_1, .slice A0_2 l0_2.length c0_2]] w fun e w' => ∃ v2_ : Value, e = .returned (.agg #[.bool r1, .string r2, v2_]) ∧ Kd.R k95 95 w' w.heap.size (fun _ => True) v2_ r3 ∧ Below w.heap.size w w' := by
 have hu57 := Try.underlying57
 have hu54 := Try.underlying54
 have hu35 := Try.underlying35
 have hu40 := Try.underlying40
 have HR0_2 := Aside0.mk hr0_2
 have HC0_2 := Aside0.mk hc0_2
 clear hr0_2 hc0_2
 have HB := ra (Below.refl w.heap.size w)
 have H : ((laws_toProbeTube.f k a0_1 l0_2).bind fun bt775 => (some (a0_0, bt775.1, bt775.2))) = some (r1, r2, r3) := h
 clear h
 obtain ⟨⟨t775, t776⟩, A2, H⟩ := bo H
 try dsimp only at H
 simp only [Option.some.injEq, Prod.mk.injEq] at H
 obtain ⟨rfl, rfl, rfl⟩ := H
 go_enter Try.func32, Try.ntmps32
 go_wp2_with (first | ((with_reducible refine gate_dst (N := 1) rfl ?_); refine be 1 #[.bool a0_0, .string a0_1, .slice A0_2 l0_2.length c0_2] 57 ?_; intro gb772 hg w3 hbox hb; have _ := bs hb; have _ := ra (hbox); have _ := bz (w0 := w) hg; have _ := bz (w0 := w) hg; clear HB; rename_i HB BK772 GW772 GE772; clear hb hbox hg) | ((with_reducible refine gate_dst (N := 2) rfl ?_); refine be 2 #[.bool false, .string (⟨#[]⟩ : ByteArray), .slice none 0 0] 54 ?_; intro gb773 hg w4 hbox hb; have _ := bb (bk BK772) hb; have _ := bs hb; have _ := ra (hbox); have _ := bz (w0 := w) hg; have _ := bz (w0 := w) hg; have _ := bn hg (bk BK772); have _ := bm hg (bk BK772); clear BK772 HB; rename_i BK772 HB BK773 GW773 GE773 NB772_773 NB773_772; clear hb hbox hg) | ((with_reducible refine gate_dst (N := 3) rfl ?_); refine be 3 #[.bool false, .string (⟨#[]⟩ : ByteArray), .slice none 0 0] 54 ?_; intro gb774 hg w5 hbox hb; have _ := bb (bk BK772) hb; have _ := bb (bk BK773) hb; have _ := bs hb; have _ := ra (hbox); have _ := bz (w0 := w) hg; have _ := bz (w0 := w) hg; have _ := bn hg (bk BK772); have _ := bm hg (bk BK772); have _ := bn hg (bk BK773); have _ := bm hg (bk BK773); clear BK772 BK773 HB; rename_i BK772 BK773 HB BK774 GW774 GE774 NB772_774 NB774_772 NB773_774 NB774_773; clear hb hbox hg; have hnb6 := NB772_773.out; have hnc6 := NB773_772.out; have hnb7 := NB772_774.out; have hnc7 := NB774_772.out; have hcz8_0 : w5.cell? ⟨gb772, 0, none⟩ = some (.bool a0_0) := (blk_cell BK772.out 0).trans rfl; have hcz8_1 : w5.cell? ⟨gb772, 1, none⟩ = some (.string a0_1) := (blk_cell BK772.out 1).trans rfl; have hcz8_2 : w5.cell? ⟨gb772, 2, none⟩ = some (.slice A0_2 l0_2.length c0_2) := (blk_cell BK772.out 2).trans rfl; have hfz8_0 := blk_frozen BK772.out 0; have hfz8_1 := blk_frozen BK772.out 1; have hfz8_2 := blk_frozen BK772.out 2; have hnb9 := NB774_773.out; have hnc9 := NB773_774.out; have hcz10_0 : w5.cell? ⟨gb774, 0, none⟩ = some (.bool false) := (blk_cell BK774.out 0).trans rfl; have hcz10_1 : w5.cell? ⟨gb774, 1, none⟩ = some (.string (⟨#[]⟩ : ByteArray)) := (blk_cell BK774.out 1).trans rfl; have hcz10_2 : w5.cell? ⟨gb774, 2, none⟩ = some (.slice none 0 0) := (blk_cell BK774.out 2).trans rfl; have hfz10_0 := blk_frozen BK774.out 0; have hfz10_1 := blk_frozen BK774.out 1; have hfz10_2 := blk_frozen BK774.out 2) | ((with_reducible refine gate_callee (f := 20) rfl ?_); refine gl (some 9) Try.func20 #[.agg #[.string a0_1, .slice A0_2 l0_2.length c0_2]] ?_; (with_reducible refine (laws_toProbeTube.calls k a0_1 _ _ l0_2 t775 t776 _ ?side1 ?side2 A2.out).mono ?_); (case side1 => exact Kd.C_below HR0_2.out bq); (case side2 => exact HC0_2.out); rintro e w11 ⟨v777, rfl, ho0, hb⟩; refine ⟨_, rfl, ?_⟩; have _ := ra (Kd.R_lower ho0 (below_size bq)); have _ := bb (bk BK772) hb; have _ := bb (bk BK773) hb; have _ := bb (o := .cells #[.bool a0_0, .string (⟨#[]⟩ : ByteArray), .slice none 0 0] 54 (0, 0)) (bp BK774) hb; have _ := bs hb; clear BK772 BK773 BK774 HB; rename_i HO778 BK772 BK773 BK774 HB; (try clear hb); (try clear hb2); (try clear hk); (try clear hi); (try clear ho0); have hcz12_0 : w11.cell? ⟨gb774, 0, none⟩ = some (.bool a0_0) := (blk_cell BK774.out 0).trans rfl; have hcz12_1 : w11.cell? ⟨gb774, 1, none⟩ = some (.string (⟨#[]⟩ : ByteArray)) := (blk_cell BK774.out 1).trans rfl; have hcz12_2 : w11.cell? ⟨gb774, 2, none⟩ = some (.slice none 0 0) := (blk_cell BK774.out 2).trans rfl; have hfz12_0 := blk_frozen BK774.out 0; have hfz12_1 := blk_frozen BK774.out 1; have hfz12_2 := blk_frozen BK774.out 2; obtain ⟨Ao13, co13, eo13⟩ := Kd.R_slice HO778.out; subst eo13; have hcz14_0 : w11.cell? ⟨gb773, 0, none⟩ = some (.bool false) := (blk_cell BK773.out 0).trans rfl; have hcz14_1 : w11.cell? ⟨gb773, 1, none⟩ = some (.string (⟨#[]⟩ : ByteArray)) := (blk_cell BK773.out 1).trans rfl; have hcz14_2 : w11.cell? ⟨gb773, 2, none⟩ = some (.slice none 0 0) := (blk_cell BK773.out 2).trans rfl; have hfz14_0 := blk_frozen BK773.out 0; have hfz14_1 := blk_frozen BK773.out 1; have hfz14_2 := blk_frozen BK773.out 2))
 refine bodyPost_ret (results_cell_row rfl _ _ gb773 54 #[.bool a0_0, .string t775, .slice Ao13 t776.length co13] (0, 0) _ rfl (bp BK773) Try.underlying54 rfl (by kernel_rfl)) rfl ?_
 exact ⟨_, re, by (with_reducible repeat (first | apply Kd.R_alloc | apply Kd.R_drewN | apply Kd.R_drew)); exact Kd.R_mono (rf (Kd.R_types (Kd.R_types HO778.out BK774.out (by decide)) BK773.out (by decide))) (fun _ hk => trivial), bq⟩
set_option maxHeartbeats 8000000 in
set_option maxRecDepth 100000 in
theorem laws_eqProbeEvent.calls (k : Nat) (a0_0 : Bool) (a0_1 : ByteArray) (A0_2 : Option Addr) (c0_2 : Nat) (l0_2 : List (S95)) (a1_0 : Bool) (a1_1 : ByteArray) (A1_2 : Option Addr) (c1_2 : Nat) (l1_2 : List (S95)) (r : Bool) (w : World) (hr0_2 : Kd.C k95 w A0_2 l0_2.length l0_2) (hc0_2 : l0_2.length ≤ c0_2) (hr1_2 : Kd.C k95 w A1_2 l1_2.length l1_2) (hc1_2 : l1_2.length ≤ c1_2) (h : laws_eqProbeEvent.f k a0_0 a0_1 l0_2 a1_0 a1_1 l1_2 = some r) :
  Calls Try.prog 33 #[.agg #[.bool a0_0, .string a0_1, .slice A0_2 l0_2.length c0_2], .agg #[.bool a1_0, .string a1_1, .slice A1_2 l1_2.length c1_2]] w fun e w' => e = .returned (.bool r) ∧ Below w.heap.size w w' := by
 have hu54 := Try.underlying54
 have hu40 := Try.underlying40
 have HR0_2 := Aside0.mk hr0_2
 have HC0_2 := Aside0.mk hc0_2
 clear hr0_2 hc0_2
 have HR1_2 := Aside0.mk hr1_2
 have HC1_2 := Aside0.mk hc1_2
 clear hr1_2 hc1_2
 have HB := ra (Below.refl w.heap.size w)
 have H : (if (a0_0 != a1_0) = true then (some false) else ((laws_eqProbeTube.f k a0_1 l0_2 a1_1 l1_2).bind fun t781 => (if t781 = true then (some true) else (some false)))) = some r := h
 clear h
 by_cases c3 : (a0_0 != a1_0) = true
 ·rw [if_pos c3] at H
  have c3b0 : (a0_0 != a1_0) = true := c3
  (try (have c3b1 : decide (a0_0 = a1_0) = false := by simpa using c3))
  (try (have c3b2 : (a0_0 == a1_0) = false := by simpa using c3))
  (try (have c3b3 : ¬ (a0_0 = a1_0) := by simpa using c3))
  clear c3
  obtain rfl := Option.some.inj H
  go_enter Try.func33, Try.ntmps33
  go_wp2_with (first | ((with_reducible refine gate_dst (N := 2) rfl ?_); refine be 2 #[.bool a0_0, .string a0_1, .slice A0_2 l0_2.length c0_2] 54 ?_; intro gb779 hg w4 hbox hb; have _ := bs hb; have _ := ra (hbox); have _ := bz (w0 := w) hg; have _ := bz (w0 := w) hg; clear HB; rename_i HB BK779 GW779 GE779; clear hb hbox hg) | ((with_reducible refine gate_dst (N := 3) rfl ?_); refine be 3 #[.bool a1_0, .string a1_1, .slice A1_2 l1_2.length c1_2] 54 ?_; intro gb780 hg w5 hbox hb; have _ := bb (bk BK779) hb; have _ := bs hb; have _ := ra (hbox); have _ := bz (w0 := w) hg; have _ := bz (w0 := w) hg; have _ := bn hg (bk BK779); have _ := bm hg (bk BK779); clear BK779 HB; rename_i BK779 HB BK780 GW780 GE780 NB779_780 NB780_779; clear hb hbox hg; have hnb6 := NB779_780.out; have hnc6 := NB780_779.out; have hcz7_0 : w5.cell? ⟨gb779, 0, none⟩ = some (.bool a0_0) := (blk_cell BK779.out 0).trans rfl; have hcz7_1 : w5.cell? ⟨gb779, 1, none⟩ = some (.string a0_1) := (blk_cell BK779.out 1).trans rfl; have hcz7_2 : w5.cell? ⟨gb779, 2, none⟩ = some (.slice A0_2 l0_2.length c0_2) := (blk_cell BK779.out 2).trans rfl; have hfz7_0 := blk_frozen BK779.out 0; have hfz7_1 := blk_frozen BK779.out 1; have hfz7_2 := blk_frozen BK779.out 2; have hcz8_0 : w5.cell? ⟨gb780, 0, none⟩ = some (.bool a1_0) := (blk_cell BK780.out 0).trans rfl; have hcz8_1 : w5.cell? ⟨gb780, 1, none⟩ = some (.string a1_1) := (blk_cell BK780.out 1).trans rfl; have hcz8_2 : w5.cell? ⟨gb780, 2, none⟩ = some (.slice A1_2 l1_2.length c1_2) := (blk_cell BK780.out 2).trans rfl; have hfz8_0 := blk_frozen BK780.out 0; have hfz8_1 := blk_frozen BK780.out 1; have hfz8_2 := blk_frozen BK780.out 2))
  go_ret
  exact ⟨re, bq⟩
 ·rw [if_neg c3] at H
  have c3b0 : (a0_0 != a1_0) = false := by simpa using c3
  (try (have c3b1 : decide (a0_0 = a1_0) = true := by simpa using c3))
  (try (have c3b2 : (a0_0 == a1_0) = true := by simpa using c3))
  clear c3
  obtain ⟨t781, A9, H⟩ := bo H
  by_cases c10 : t781 = true
  ·subst c10
   replace H := it H rfl
   obtain rfl := Option.some.inj H
   go_enter Try.func33, Try.ntmps33
   go_wp2_with (first | ((with_reducible refine gate_dst (N := 2) rfl ?_); refine be 2 #[.bool a0_0, .string a0_1, .slice A0_2 l0_2.length c0_2] 54 ?_; intro gb779 hg w11 hbox hb; have _ := bs hb; have _ := ra (hbox); have _ := bz (w0 := w) hg; have _ := bz (w0 := w) hg; clear HB; rename_i HB BK779 GW779 GE779; clear hb hbox hg) | ((with_reducible refine gate_dst (N := 3) rfl ?_); refine be 3 #[.bool a1_0, .string a1_1, .slice A1_2 l1_2.length c1_2] 54 ?_; intro gb780 hg w12 hbox hb; have _ := bb (bk BK779) hb; have _ := bs hb; have _ := ra (hbox); have _ := bz (w0 := w) hg; have _ := bz (w0 := w) hg; have _ := bn hg (bk BK779); have _ := bm hg (bk BK779); clear BK779 HB; rename_i BK779 HB BK780 GW780 GE780 NB779_780 NB780_779; clear hb hbox hg; have hnb13 := NB779_780.out; have hnc13 := NB780_779.out; have hcz14_0 : w12.cell? ⟨gb779, 0, none⟩ = some (.bool a0_0) := (blk_cell BK779.out 0).trans rfl; have hcz14_1 : w12.cell? ⟨gb779, 1, none⟩ = some (.string a0_1) := (blk_cell BK779.out 1).trans rfl; have hcz14_2 : w12.cell? ⟨gb779, 2, none⟩ = some (.slice A0_2 l0_2.length c0_2) := (blk_cell BK779.out 2).trans rfl; have hfz14_0 := blk_frozen BK779.out 0; have hfz14_1 := blk_frozen BK779.out 1; have hfz14_2 := blk_frozen BK779.out 2; have hcz15_0 : w12.cell? ⟨gb780, 0, none⟩ = some (.bool a1_0) := (blk_cell BK780.out 0).trans rfl; have hcz15_1 : w12.cell? ⟨gb780, 1, none⟩ = some (.string a1_1) := (blk_cell BK780.out 1).trans rfl; have hcz15_2 : w12.cell? ⟨gb780, 2, none⟩ = some (.slice A1_2 l1_2.length c1_2) := (blk_cell BK780.out 2).trans rfl; have hfz15_0 := blk_frozen BK780.out 0; have hfz15_1 := blk_frozen BK780.out 1; have hfz15_2 := blk_frozen BK780.out 2) | ((with_reducible refine gate_callee (f := 22) rfl ?_); refine gl (some 14) Try.func22 #[.agg #[.string a0_1, .slice A0_2 l0_2.length c0_2], .agg #[.string a1_1, .slice A1_2 l1_2.length c1_2]] ?_; (with_reducible refine (laws_eqProbeTube.calls k a0_1 _ _ l0_2 a1_1 _ _ l1_2 true _ ?side1 ?side2 ?side3 ?side4 A9.out).mono ?_); (case side1 => exact sc HR0_2); (case side2 => exact HC0_2.out); (case side3 => exact sc HR1_2); (case side4 => exact HC1_2.out); rintro e w16 ⟨rfl, hb⟩; refine ⟨_, rfl, ?_⟩; have _ := bb (bk BK779) hb; have _ := bb (bk BK780) hb; have _ := bs hb; clear BK779 BK780 HB; rename_i BK779 BK780 HB; (try clear hb); (try clear hb2); (try clear hk); (try clear hi)))
   go_ret
   exact ⟨re, bq⟩
  ·replace c10 := Bool.eq_false_iff.mpr c10
   subst c10
   have H1 : (some false) = some r := by rw [if_neg (show ¬ (false = true) by decide)] at H; exact H
   clear H
   have H := H1
   clear H1
   obtain rfl := Option.some.inj H
   go_enter Try.func33, Try.ntmps33
   go_wp2_with (first | ((with_reducible refine gate_dst (N := 2) rfl ?_); refine be 2 #[.bool a0_0, .string a0_1, .slice A0_2 l0_2.length c0_2] 54 ?_; intro gb779 hg w17 hbox hb; have _ := bs hb; have _ := ra (hbox); have _ := bz (w0 := w) hg; have _ := bz (w0 := w) hg; clear HB; rename_i HB BK779 GW779 GE779; clear hb hbox hg) | ((with_reducible refine gate_dst (N := 3) rfl ?_); refine be 3 #[.bool a1_0, .string a1_1, .slice A1_2 l1_2.length c1_2] 54 ?_; intro gb780 hg w18 hbox hb; have _ := bb (bk BK779) hb; have _ := bs hb; have _ := ra (hbox); have _ := bz (w0 := w) hg; have _ := bz (w0 := w) hg; have _ := bn hg (bk BK779); have _ := bm hg (bk BK779); clear BK779 HB; rename_i BK779 HB BK780 GW780 GE780 NB779_780 NB780_779; clear hb hbox hg; have hnb19 := NB779_780.out; have hnc19 := NB780_779.out; have hcz20_0 : w18.cell? ⟨gb779, 0, none⟩ = some (.bool a0_0) := (blk_cell BK779.out 0).trans rfl; have hcz20_1 : w18.cell? ⟨gb779, 1, none⟩ = some (.string a0_1) := (blk_cell BK779.out 1).trans rfl; have hcz20_2 : w18.cell? ⟨gb779, 2, none⟩ = some (.slice A0_2 l0_2.length c0_2) := (blk_cell BK779.out 2).trans rfl; have hfz20_0 := blk_frozen BK779.out 0; have hfz20_1 := blk_frozen BK779.out 1; have hfz20_2 := blk_frozen BK779.out 2; have hcz21_0 : w18.cell? ⟨gb780, 0, none⟩ = some (.bool a1_0) := (blk_cell BK780.out 0).trans rfl; have hcz21_1 : w18.cell? ⟨gb780, 1, none⟩ = some (.string a1_1) := (blk_cell BK780.out 1).trans rfl; have hcz21_2 : w18.cell? ⟨gb780, 2, none⟩ = some (.slice A1_2 l1_2.length c1_2) := (blk_cell BK780.out 2).trans rfl; have hfz21_0 := blk_frozen BK780.out 0; have hfz21_1 := blk_frozen BK780.out 1; have hfz21_2 := blk_frozen BK780.out 2) | ((with_reducible refine gate_callee (f := 22) rfl ?_); refine gl (some 14) Try.func22 #[.agg #[.string a0_1, .slice A0_2 l0_2.length c0_2], .agg #[.string a1_1, .slice A1_2 l1_2.length c1_2]] ?_; (with_reducible refine (laws_eqProbeTube.calls k a0_1 _ _ l0_2 a1_1 _ _ l1_2 false _ ?side1 ?side2 ?side3 ?side4 A9.out).mono ?_); (case side1 => exact sc HR0_2); (case side2 => exact HC0_2.out); (case side3 => exact sc HR1_2); (case side4 => exact HC1_2.out); rintro e w22 ⟨rfl, hb⟩; refine ⟨_, rfl, ?_⟩; have _ := bb (bk BK779) hb; have _ := bb (bk BK780) hb; have _ := bs hb; clear BK779 BK780 HB; rename_i BK779 BK780 HB; (try clear hb); (try clear hb2); (try clear hk); (try clear hi)))
   go_ret
   exact ⟨re, bq⟩
set_option maxHeartbeats 8000000 in
set_option maxRecDepth 100000 in
theorem laws_markProbeEvent.calls (k : Nat) (a0_0 : Bool) (a0_1 : ByteArray) (P0_2_ : Nat → Prop) (u9000_ : Value) (l0_2 : List (S95)) (a1 : Int) (r1 : Int) (r2 : List (S95)) (w0 w : World) (hB : Below w0.heap.size w0 w) (ho0_2 : Kd.R k95 95 w w0.heap.size P0_2_ u9000_ l0_2) (h : laws_markProbeEvent.f k a0_0 a0_1 l0_2 a1 = some (r1, r2)) :
  Calls Try.prog 34 #[.agg #[.bool a0_0, .string a0_1, u9000_], .int .i64 a1] w fun e w' => e = .returned (.int .i64 r1) ∧ Kd.R k95 95 w' w0.heap.size (fun k_ => (P0_2_ k_ ∨ w.heap.size ≤ k_)) u9000_ r2 ∧ Below w0.heap.size w0 w' ∧ Kept w w' (fun k_ => P0_2_ k_) := by
 have hu54 := Try.underlying54
 have hu40 := Try.underlying40
 have HO0_2 := ra (show Kd.R k95 95 w w0.heap.size (fun k_ => (P0_2_ k_ ∨ w.heap.size ≤ k_)) u9000_ l0_2 from Kd.R_mono ho0_2 (fun k_ hk => (.inl hk)))
 have HK := ra (Kept.refl w (fun k_ => P0_2_ k_))
 have HW0 := Aside0.mk hB.size
 have HB := Aside0.mk hB
 clear hB
 have H : ((laws_markProbeTube.f k a0_1 l0_2 a1).bind fun bt783 => (some (bt783.1, bt783.2))) = some (r1, r2) := h
 clear h
 obtain ⟨⟨t783, t784⟩, A3, H⟩ := bo H
 try dsimp only at H
 simp only [Option.some.injEq, Prod.mk.injEq] at H
 obtain ⟨rfl, rfl⟩ := H
 obtain ⟨Ao4, co4, eo4⟩ := Kd.R_slice HO0_2.out
 subst eo4
 go_enter Try.func34, Try.ntmps34
 go_wp2_with (first | ((with_reducible refine gate_dst (N := 2) rfl ?_); refine be 2 #[.bool a0_0, .string a0_1, .slice Ao4 l0_2.length co4] 54 ?_; intro gb782 hg w5 hbox hb; have _ := ra (Kd.R_below (rq HO0_2) hb); have _ := ra (Kept.below (S := (fun k_ => P0_2_ k_)) (by repeat (first | (with_reducible first | exact HK.out | apply Kept.alloc | apply Kept.drewN | apply Kept.drew) | exact HK.out)) hb); have _ := bs hb; have _ := ra (hbox); have _ := ra ((by rw [hg]; exact (by first | exact HK.out.1 | exact (show Kept w _ (fun k_ => P0_2_ k_) from by repeat (first | (with_reducible first | exact HK.out | apply Kept.alloc | apply Kept.drewN | apply Kept.drew) | exact HK.out)).1) : w.heap.size ≤ gb782)); have _ := ra ((by rw [hg]; exact (below_size bq) : w0.heap.size ≤ gb782)); clear HO0_2 HK HB; rename_i HO0_2 HK HB BK782 GW782 GE782; clear hb hbox hg; have hcz6_0 : w5.cell? ⟨gb782, 0, none⟩ = some (.bool a0_0) := (blk_cell BK782.out 0).trans rfl; have hcz6_1 : w5.cell? ⟨gb782, 1, none⟩ = some (.string a0_1) := (blk_cell BK782.out 1).trans rfl; have hcz6_2 : w5.cell? ⟨gb782, 2, none⟩ = some (.slice Ao4 l0_2.length co4) := (blk_cell BK782.out 2).trans rfl; have hfz6_0 := blk_frozen BK782.out 0; have hfz6_1 := blk_frozen BK782.out 1; have hfz6_2 := blk_frozen BK782.out 2) | ((with_reducible refine gate_callee (f := 23) rfl ?_); refine gl (some 8) Try.func23 #[.agg #[.string a0_1, .slice Ao4 l0_2.length co4], .int .i64 a1] ?_; (with_reducible refine (laws_markProbeTube.calls k a0_1 (fun k_ => some k_ = (.slice Ao4 l0_2.length co4 : Value).ownBlock) (.slice Ao4 l0_2.length co4) l0_2 a1 t783 t784 w0 _ ?side1 ?side2 A3.out).mono ?_); (case side1 => repeat (first | (with_reducible first | exact HB.out | apply below_alloc | apply pw_below_drewN | apply below_drew1 | refine below_set ?_ GE782.out) | exact HB.out)); (case side2 => exact Kd.R_tight rfl HO0_2.out); rintro e w7 ⟨rfl, hy0, hb, hkp⟩; refine ⟨_, rfl, ?_⟩; have _ := ra (Kd.R_reok rfl hy0 (fun k_ e_ => HO0_2.out.1 k_ e_)); have _ := ra (blk_kept (bk BK782) hkp (fun hs_ => (fun e_ => (Kd.R_ne HO0_2.out BK782.out (by decide)) e_) hs_)); have _ := ra (Kept.then_ (S := (fun k_ => P0_2_ k_)) (by repeat (first | (with_reducible first | exact HK.out | apply Kept.alloc | apply Kept.drewN | apply Kept.drew | refine Kept.setCell ?_ (.inr GW782.out) _) | exact HK.out)) hkp (fun k_ hs_ => (fun e_ => (HO0_2.out.1 k_ e_.symm)) hs_)); have _ := ra (hb); clear HO0_2 BK782 HK HB; rename_i HO0_2 BK782 HK HB; (try clear hb); (try clear hkp); (try clear hy0)))
 go_ret
 exact ⟨re, rq HO0_2, bq, by repeat (first | (with_reducible first | exact HK.out | apply Kept.alloc | apply Kept.drewN | apply Kept.drew | refine Kept.setCell ?_ (.inr GW782.out) _) | exact HK.out)⟩
def laws_heldProbeTubeS.T4 : Bool × List (List Nat × List Nat) := (true, [([], []), ([], []), ([0, 1], [0, 1]), ([2], [2]), ([3], [3]), ([], []), ([5], [5]), ([4, 6], [4, 6])])
def laws_heldProbeTubeS.B4 : List Nat := [0, 0, 3, 7, 15, 0, 32, 127]
theorem laws_heldProbeTubeS.tab4 : rtab .any (opsOf Try.f35 4) = laws_heldProbeTubeS.T4 := by kernel_rfl
theorem laws_heldProbeTubeS.bits4 : waitsOk laws_heldProbeTubeS.T4.2 laws_heldProbeTubeS.B4 = true := by kernel_rfl
set_option maxHeartbeats 8000000 in
set_option maxRecDepth 100000 in
theorem laws_heldProbeTubeS.calls (k : Nat) (A0 : Option Addr) (c0 : Nat) (l0 : List (S40)) (a1 : Int) (r : Int) (w : World) (hr0 : Kd.C k40 w A0 l0.length l0) (hc0 : l0.length ≤ c0) (h : laws_heldProbeTubeS.f k l0 a1 = some r) :
  Calls Try.prog 35 #[.slice A0 l0.length c0, .int .i64 a1] w fun e w' => e = .returned (.int .i64 r) ∧ Below w.heap.size w w' := by
 have HR0 := Aside0.mk hr0
 have HC0 := Aside0.mk hc0
 clear hr0 hc0
 have HB := ra (Below.refl w.heap.size w)
 have H : (laws_heldProbeTubeS.l0 k l0 a1 0) = some r := h
 clear h
 have H' := Aside0.mk H
 clear H
 go_enter Try.func35, Try.ntmps35
 go_wp2
 go_loopg [1, 5] k (fun kq v1 v5 w' => ∃ (x1_1 : Int) (x5_1 : Int), v1 = .int .i64 x1_1 ∧ v5 = .int .i64 x5_1 ∧ Aside0 (laws_heldProbeTubeS.l0 kq l0 x1_1 x5_1 = some r) ∧ Aside0 (kq ≤ k) ∧ Aside0 (Below w.heap.size w w'))
 case atStart => exact ⟨(a1), (0), rs, rs, H', ⟨Nat.le_refl _⟩, ⟨bq⟩⟩
 case round =>
  clear H'
  obtain ⟨x1_1, x5_1, rfl, rfl, HA, HK1, HB⟩ := hrel
  cases gk with
  | zero => exact absurd HA.out (by simp [laws_heldProbeTubeS.l0])
  | succ k1 =>
   have H := HA.out
   clear HA
   simp only [laws_heldProbeTubeS.l0] at H
   by_cases c3 : x5_1 < (l0.length : Int)
   ·rw [if_pos c3] at H
    have c3b0 : decide (x5_1 < (l0.length : Int)) = true := decide_eq_true c3
    clear c3
    by_cases c4 : 0 ≤ x5_1
    ·rw [if_pos c4] at H
     have c4b0 : decide (0 ≤ x5_1) = true := decide_eq_true c4
     clear c4
     obtain ⟨t792, A5, H⟩ := bo H
     by_cases c6 : ((rd_T40 l0 x5_1).f0).toList = t792.toList
     ·rw [if_pos c6] at H
      have c6b0 : (((rd_T40 l0 x5_1).f0).toList == t792.toList) = true := beq_iff_eq.mpr c6
      have c6b1 : (((rd_T40 l0 x5_1).f0).toList != t792.toList) = false := bne_eq_false_iff_eq.mpr c6
      clear c6
      obtain ⟨t794, A7, H⟩ := bo H
      by_cases c8 : t794 < 0
      ·rw [if_pos c8] at H
       have c8b0 : decide (t794 < 0) = true := decide_eq_true c8
       clear c8
       obtain rfl := Option.some.inj H
       try go_wp2
       have _ := ra (below_drew1 HB.out)
       clear HB
       rename_i HB
       have p791 : 0 ≤ (x5_1 : Int) := od
       have q791 : x5_1 < (l0.length : Int) := od
       obtain ⟨ad791, A791_1, c791_1, e791, hx791_0, hx791_1, hl791_1, hi791_1⟩ := at_T40 HR0.out x5_1 p791 q791
       have hw791_1 := hx791_1
       have hw791_0 := hx791_0
       cases e791
       replace hx791_0 := hc HB hx791_0
       replace hx791_1 := hc HB hx791_1
       have HR791_1 := Aside0.mk hi791_1
       have HC791_1 := Aside0.mk hl791_1
       clear hi791_1 hl791_1
       replace p791 := eq_true p791
       replace q791 := eq_true q791
       refine start_ (n := 8) (S := fun w' => w'.cell? (ad791.add ((x5_1).toNat * 2)) = some (.string ((rd_T40 l0 x5_1).f0)) ∧ w'.cell? ⟨(ad791.add ((x5_1).toNat * 2)).block, (ad791.add ((x5_1).toNat * 2)).off + 1, none⟩ = some (.slice A791_1 ((rd_T40 l0 x5_1).f1).length c791_1)) (ds := []) (bl 8 0) (by kernel_rfl) rfl rfl ⟨(hc HB hw791_0), (hc HB hw791_1)⟩ (fun hHeld => ?_); refine with_tabW laws_heldProbeTubeS.tab4 laws_heldProbeTubeS.bits4 (fun HT_ HW_ => ?_)
       generalize wr.drew = w9 at HB HR791_1 hx791_0 hx791_1 hHeld ⊢
       refine pu 0 12 (bl 8 1) ?_
       refine pu 1 13 (bl 8 3) ?_
       refine pu 2 14 (bl 8 7) ?_
       refine pu 3 15 (bl 8 15) ?_
       refine pu 5 17 (bl 8 47) ?_
       refine tk 4 16 (bl 8 63) ?_ hHeld
       refine oe 6 18 (bl 8 127) (fun K hK => ?_)
       refine gs Try.func48 #[.int .i64 x1_1] ?_
       with_reducible refine (laws_markText.calls k1 x1_1 t792 _ A5.out).mono ?_
       rintro e w10 ⟨rfl, hb⟩
       refine ⟨_, rfl, ?_⟩
       have _ := bs hb
       clear HB
       rename_i HB
       (try clear hb)
       (try clear hb2)
       (try clear hk)
       (try clear hi)
       refine hK.out _ _ ⟨(hc HB hw791_0), (hc HB hw791_1)⟩ (fun hHeld => ?_)
       clear hK K
       refine nm 18 ?_
       refine pu 7 19 (bl 8 255) ?_
       refine done_ (done_of HT_.out (by kernel_rfl)) ?_
       have p793 : 0 ≤ (x5_1 : Int) := od
       have q793 : x5_1 < (l0.length : Int) := od
       obtain ⟨ad793, A793_1, c793_1, e793, hx793_0, hx793_1, hl793_1, hi793_1⟩ := at_T40 HR0.out x5_1 p793 q793
       obtain rfl : ad791 = ad793 := (by injection e793)
       have ee793 := hx793_1.symm.trans hw791_1
       simp only [Option.some.injEq, Value.slice.injEq, true_and] at ee793
       obtain ⟨rfl, rfl⟩ := ee793
       replace hx793_0 := hc HB hx793_0
       replace hx793_1 := hc HB hx793_1
       have HR793_1 := Aside0.mk hi793_1
       have HC793_1 := Aside0.mk hl793_1
       clear hi793_1 hl793_1
       replace p793 := eq_true p793
       replace q793 := eq_true q793
       try go_wp2_with (first | ((with_reducible refine gate_callee (f := 64) rfl ?_); refine gl (some 28) Try.func64 #[.slice A793_1 ((rd_T40 l0 x5_1).f1).length c793_1, .int .i64 (wrap64 (x1_1 + 1))] ?_; (with_reducible refine (laws_heldProbeBoxS.calls k1 _ _ ((rd_T40 l0 x5_1).f1) (wrap64 (x1_1 + 1)) t794 _ ?side1 ?side2 A7.out).mono ?_); (case side1 => exact sc HR793_1); (case side2 => exact HC793_1.out); rintro e w' ⟨rfl, ⟨nd, rfl⟩⟩; refine ⟨_, rfl, ?_⟩))
       go_ret
       exact ⟨re, bq⟩
      ·rw [if_neg c8] at H
       have c8b0 : decide (t794 < 0) = false := decide_eq_false c8
       clear c8
       have H' := Aside0.mk H
       clear H
       try go_wp2
       have _ := ra (below_drew1 HB.out)
       clear HB
       rename_i HB
       have p791 : 0 ≤ (x5_1 : Int) := od
       have q791 : x5_1 < (l0.length : Int) := od
       obtain ⟨ad791, A791_1, c791_1, e791, hx791_0, hx791_1, hl791_1, hi791_1⟩ := at_T40 HR0.out x5_1 p791 q791
       have hw791_1 := hx791_1
       have hw791_0 := hx791_0
       cases e791
       replace hx791_0 := hc HB hx791_0
       replace hx791_1 := hc HB hx791_1
       have HR791_1 := Aside0.mk hi791_1
       have HC791_1 := Aside0.mk hl791_1
       clear hi791_1 hl791_1
       replace p791 := eq_true p791
       replace q791 := eq_true q791
       refine start_ (n := 8) (S := fun w' => w'.cell? (ad791.add ((x5_1).toNat * 2)) = some (.string ((rd_T40 l0 x5_1).f0)) ∧ w'.cell? ⟨(ad791.add ((x5_1).toNat * 2)).block, (ad791.add ((x5_1).toNat * 2)).off + 1, none⟩ = some (.slice A791_1 ((rd_T40 l0 x5_1).f1).length c791_1)) (ds := []) (bl 8 0) (by kernel_rfl) rfl rfl ⟨(hc HB hw791_0), (hc HB hw791_1)⟩ (fun hHeld => ?_); refine with_tabW laws_heldProbeTubeS.tab4 laws_heldProbeTubeS.bits4 (fun HT_ HW_ => ?_)
       generalize wr.drew = w11 at HB HR791_1 hx791_0 hx791_1 hHeld ⊢
       refine pu 0 12 (bl 8 1) ?_
       refine pu 1 13 (bl 8 3) ?_
       refine pu 2 14 (bl 8 7) ?_
       refine pu 3 15 (bl 8 15) ?_
       refine pu 5 17 (bl 8 47) ?_
       refine tk 4 16 (bl 8 63) ?_ hHeld
       refine oe 6 18 (bl 8 127) (fun K hK => ?_)
       refine gs Try.func48 #[.int .i64 x1_1] ?_
       with_reducible refine (laws_markText.calls k1 x1_1 t792 _ A5.out).mono ?_
       rintro e w12 ⟨rfl, hb⟩
       refine ⟨_, rfl, ?_⟩
       have _ := bs hb
       clear HB
       rename_i HB
       (try clear hb)
       (try clear hb2)
       (try clear hk)
       (try clear hi)
       refine hK.out _ _ ⟨(hc HB hw791_0), (hc HB hw791_1)⟩ (fun hHeld => ?_)
       clear hK K
       refine nm 18 ?_
       refine pu 7 19 (bl 8 255) ?_
       refine done_ (done_of HT_.out (by kernel_rfl)) ?_
       have p793 : 0 ≤ (x5_1 : Int) := od
       have q793 : x5_1 < (l0.length : Int) := od
       obtain ⟨ad793, A793_1, c793_1, e793, hx793_0, hx793_1, hl793_1, hi793_1⟩ := at_T40 HR0.out x5_1 p793 q793
       obtain rfl : ad791 = ad793 := (by injection e793)
       have ee793 := hx793_1.symm.trans hw791_1
       simp only [Option.some.injEq, Value.slice.injEq, true_and] at ee793
       obtain ⟨rfl, rfl⟩ := ee793
       replace hx793_0 := hc HB hx793_0
       replace hx793_1 := hc HB hx793_1
       have HR793_1 := Aside0.mk hi793_1
       have HC793_1 := Aside0.mk hl793_1
       clear hi793_1 hl793_1
       replace p793 := eq_true p793
       replace q793 := eq_true q793
       try go_wp2_with (first | ((with_reducible refine gate_callee (f := 64) rfl ?_); refine gl (some 28) Try.func64 #[.slice A793_1 ((rd_T40 l0 x5_1).f1).length c793_1, .int .i64 (wrap64 (x1_1 + 1))] ?_; (with_reducible refine (laws_heldProbeBoxS.calls k1 _ _ ((rd_T40 l0 x5_1).f1) (wrap64 (x1_1 + 1)) t794 _ ?side1 ?side2 A7.out).mono ?_); (case side1 => exact sc HR793_1); (case side2 => exact HC793_1.out); rintro e w' ⟨rfl, ⟨nd, rfl⟩⟩; refine ⟨_, rfl, ?_⟩))
       go_roundg k1
       case measure => have := HK1.out; omega
       case rel => exact ⟨(t794), (wrap64 (x5_1 + 1)), rs, rs, H', ⟨by have := HK1.out; omega⟩, ⟨bq⟩⟩
     ·rw [if_neg c6] at H
      have c6b0 : (((rd_T40 l0 x5_1).f0).toList == t792.toList) = false := beq_eq_false_iff_ne.mpr c6
      have c6b1 : (((rd_T40 l0 x5_1).f0).toList != t792.toList) = true := bne_iff_ne.mpr c6
      obtain rfl := Option.some.inj H
      try go_wp2
      have _ := ra (below_drew1 HB.out)
      clear HB
      rename_i HB
      have p791 : 0 ≤ (x5_1 : Int) := od
      have q791 : x5_1 < (l0.length : Int) := od
      obtain ⟨ad791, A791_1, c791_1, e791, hx791_0, hx791_1, hl791_1, hi791_1⟩ := at_T40 HR0.out x5_1 p791 q791
      have hw791_1 := hx791_1
      have hw791_0 := hx791_0
      cases e791
      replace hx791_0 := hc HB hx791_0
      replace hx791_1 := hc HB hx791_1
      have HR791_1 := Aside0.mk hi791_1
      have HC791_1 := Aside0.mk hl791_1
      clear hi791_1 hl791_1
      replace p791 := eq_true p791
      replace q791 := eq_true q791
      refine start_ (n := 8) (S := fun w' => w'.cell? (ad791.add ((x5_1).toNat * 2)) = some (.string ((rd_T40 l0 x5_1).f0)) ∧ w'.cell? ⟨(ad791.add ((x5_1).toNat * 2)).block, (ad791.add ((x5_1).toNat * 2)).off + 1, none⟩ = some (.slice A791_1 ((rd_T40 l0 x5_1).f1).length c791_1)) (ds := []) (bl 8 0) (by kernel_rfl) rfl rfl ⟨(hc HB hw791_0), (hc HB hw791_1)⟩ (fun hHeld => ?_); refine with_tabW laws_heldProbeTubeS.tab4 laws_heldProbeTubeS.bits4 (fun HT_ HW_ => ?_)
      generalize wr.drew = w13 at HB HR791_1 hx791_0 hx791_1 hHeld ⊢
      refine pu 0 12 (bl 8 1) ?_
      refine pu 1 13 (bl 8 3) ?_
      refine pu 2 14 (bl 8 7) ?_
      refine pu 3 15 (bl 8 15) ?_
      refine pu 5 17 (bl 8 47) ?_
      refine tk 4 16 (bl 8 63) ?_ hHeld
      refine oe 6 18 (bl 8 127) (fun K hK => ?_)
      refine gs Try.func48 #[.int .i64 x1_1] ?_
      with_reducible refine (laws_markText.calls k1 x1_1 t792 _ A5.out).mono ?_
      rintro e w14 ⟨rfl, hb⟩
      refine ⟨_, rfl, ?_⟩
      have _ := bs hb
      clear HB
      rename_i HB
      (try clear hb)
      (try clear hb2)
      (try clear hk)
      (try clear hi)
      refine hK.out _ _ ⟨(hc HB hw791_0), (hc HB hw791_1)⟩ (fun hHeld => ?_)
      clear hK K
      refine nm 18 ?_
      refine pu 7 19 (bl 8 255) ?_
      refine done_ (done_of HT_.out (by kernel_rfl)) ?_
      try go_wp2
      go_ret
      exact ⟨re, bq⟩
    ·rw [if_neg c4] at H
     exact absurd H (by simp)
   ·rw [if_neg c3] at H
    have c3b0 : decide (x5_1 < (l0.length : Int)) = false := decide_eq_false c3
    clear c3
    obtain rfl := Option.some.inj H
    go_wp2
    go_ret
    exact ⟨re, bq⟩
end Go.Proofs.Ytdbomnhdpniigaa.PA
