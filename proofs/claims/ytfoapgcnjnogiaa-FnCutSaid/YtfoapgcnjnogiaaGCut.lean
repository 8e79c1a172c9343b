/- Contracts of the functions spec_ProbeCut, impl_ProbeCut. (Began as a print of the kit's tool.) -/
import Derived.Test.YtfoapgcnjnogiaaPAd
import Derived.Test.YtfoapgcnjnogiaaCx
import Derived.Test.YtfoapgcnjnogiaaCy
import Derived.Test.YtfoapgcnjnogiaaGBase
namespace Go.Proofs.Ytfoapgcnjnogiaa.PA
open Go.RowKit Go.Proofs.YtfoapgcnjnogiaaW.PrintWords Go.Proofs.YtfoapgcnjnogiaaW.PrintLast Go.Proofs.YtfoapgcnjnogiaaW.PrintMore Go.Proofs.Ytfoapgcnjnogiaa.Z
attribute [local go_sem] max2_int min2_int max_two min_two max_three min_three max_four min_four
set_option linter.unusedVariables false
set_option linter.unusedSimpArgs false
set_option maxHeartbeats 8000000 in
set_option maxRecDepth 100000 in
theorem spec_ProbeCut.calls (k : Nat) (a0_0 : ByteArray) (A0_1 : Option Addr) (c0_1 : Nat) (l0_1 : List (S26)) (a1 : Int) (r1 : ByteArray) (r2 : List (S26)) (w : World) (hr0_1 : Kd.C k26 w A0_1 l0_1.length l0_1) (hc0_1 : l0_1.length ≤ c0_1) (h : spec_ProbeCut.f k a0_0 l0_1 a1 = some (r1, r2)) :
  Calls Try.prog 35 #[.agg #[.string a0_0, .slice A0_1 l0_1.length c0_1], .int .i64 a1] w fun e w' => ∃ v1_ : Value, e = .returned (.agg #[.string r1, v1_]) ∧ Kd.R k26 26 w' w.heap.size (fun _ => True) v1_ r2 ∧ Below w.heap.size w w' := by
 have hu39 := Try.underlying39
 have hu26 := Try.underlying26
 have HR0_1 := Aside0.mk hr0_1
 have HC0_1 := Aside0.mk hc0_1
 clear hr0_1 hc0_1
 have HB := ra (Below.refl w.heap.size w)
 have H : ((spec_ProbeTubeOk.f k a0_0 l0_1).bind fun t400 => (if t400 = true then (spec_ProbeCut.l0 k a1 0 a0_0 l0_1 a0_0 ([] : List (S26))) else (some ((⟨#[]⟩ : ByteArray), ([] : List (S26)))))) = some (r1, r2) := h
 clear h
 obtain ⟨t400, A3, H⟩ := bo H
 by_cases c4 : t400 = true
 ·subst c4
  replace H := it H rfl
  have H' := Aside0.mk H
  clear H
  go_enter Try.func35, Try.ntmps35
  go_wp2_with (first | ((with_reducible refine gate_dst (N := 2) rfl ?_); refine be 2 #[.string a0_0, .slice A0_1 l0_1.length c0_1] 39 ?_; intro gb397 hg w5 hbox hb; have _ := bs hb; have _ := ra (hbox); have _ := bz (w0 := w) hg; have _ := bz (w0 := w) hg; clear HB; rename_i HB BK397 GW397 GE397; clear hb hbox hg) | ((with_reducible refine gate_dst (N := 4) rfl ?_); refine be 4 #[.string (⟨#[]⟩ : ByteArray), .slice none 0 0] 39 ?_; intro gb398 hg w6 hbox hb; have _ := bb (bk BK397) hb; have _ := bs hb; have _ := ra (hbox); have _ := bz (w0 := w) hg; have _ := bz (w0 := w) hg; have _ := bn hg (bk BK397); have _ := bm hg (bk BK397); clear BK397 HB; rename_i BK397 HB BK398 GW398 GE398 NB397_398 NB398_397; clear hb hbox hg; have hnb7 := NB397_398.out; have hnc7 := NB398_397.out; obtain ⟨hcz8_0, hcz8_1, hfz8_0, hfz8_1⟩ := zc2 BK397) | ((with_reducible refine gate_dst (N := 5) rfl ?_); refine be 5 #[.string (⟨#[]⟩ : ByteArray), .slice none 0 0] 39 ?_; intro gb399 hg w9 hbox hb; have _ := bb (bk BK397) hb; have _ := bb (bk BK398) hb; have _ := bs hb; have _ := ra (hbox); have _ := bz (w0 := w) hg; have _ := bz (w0 := w) hg; have _ := bn hg (bk BK397); have _ := bm hg (bk BK397); have _ := bn hg (bk BK398); have _ := bm hg (bk BK398); clear BK397 BK398 HB; rename_i BK397 BK398 HB BK399 GW399 GE399 NB397_399 NB399_397 NB398_399 NB399_398; clear hb hbox hg; have hnb10 := NB399_397.out; have hnc10 := NB397_399.out; have hnb11 := NB399_398.out; have hnc11 := NB398_399.out; obtain ⟨hcz12_0, hcz12_1, hfz12_0, hfz12_1⟩ := zc2 BK399; obtain ⟨hcz13_0, hcz13_1, hfz13_0, hfz13_1⟩ := zc2 BK397) | ((with_reducible refine gate_callee (f := 21) rfl ?_); refine gl (some 12) Try.func21 #[.agg #[.string a0_0, .slice A0_1 l0_1.length c0_1]] ?_; (with_reducible refine (spec_ProbeTubeOk.calls k a0_0 _ _ l0_1 true _ ?side1 ?side2 A3.out).mono ?_); (case side1 => exact Kd.C_below HR0_1.out bq); (case side2 => exact HC0_1.out); rintro e w14 ⟨rfl, hb⟩; refine ⟨_, rfl, ?_⟩; have _ := bb (bk BK397) hb; have _ := bb (bk BK398) hb; have _ := bb (o := .cells #[.string a0_0, .slice none 0 0] 39 (0, 0)) (bp BK399) hb; have _ := bs hb; clear BK397 BK398 BK399 HB; rename_i BK397 BK398 BK399 HB; (try clear hb); (try clear hb2); (try clear hk); (try clear hi)))
  go_loopg [6] k (fun kq v6 w' => ∃ (x6_1 : Int) (x400001_1 : List (S26)) (u400001 : Value), v6 = .int .i64 x6_1 ∧ Aside0 (spec_ProbeCut.l0 kq a1 x6_1 a0_0 l0_1 a0_0 x400001_1 = some (r1, r2)) ∧ Aside0 (kq ≤ k) ∧ Aside0 (Kd.R k26 26 w' w.heap.size (fun _ => True) u400001 x400001_1) ∧ Aside0 (w'.heap[gb397]? = some (.cells #[.string a0_0, (.slice A0_1 l0_1.length c0_1)] 39 (0, 0))) ∧ Aside0 (w'.heap[gb398]? = some (.cells #[.string (⟨#[]⟩ : ByteArray), (.slice none 0 0)] 39 (0, 0))) ∧ Aside0 (w'.heap[gb399]? = some (.cells #[.string a0_0, u400001] 39 (0, 0))) ∧ Aside0 (Below w.heap.size w w'))
  case atStart => exact ⟨(0), (([] : List (S26))), (.slice none 0 0), rs, H', ⟨Nat.le_refl _⟩, ⟨by first | exact Kd.R_nil _ _ _ _ _ | exact Kd.N_nil _ _ _ _ _ | exact Kd.V_nil _ _ _ _ _ | exact Kd.Q_nil _ _ _ _ _ | exact Kd.S_nil _ _ _ _ _⟩, ⟨bk BK397⟩, ⟨bk BK398⟩, ⟨bk BK399⟩, ⟨bq⟩⟩
  case round =>
   clear H'
   try clear c4
   try clear hcz12_0
   try clear hcz12_1
   try clear hcz13_0
   try clear hcz13_1
   try clear hcz8_0
   try clear hcz8_1
   try clear hfz12_0
   try clear hfz12_1
   try clear hfz13_0
   try clear hfz13_1
   try clear hfz8_0
   try clear hfz8_1
   obtain ⟨x6_1, x400001_1, u400001, rfl, HA, HK1, HO_400001, BK397, BK398, BK399, HB⟩ := hrel
   cases gk with
   | zero => exact absurd HA.out (by simp [spec_ProbeCut.l0])
   | succ k1 =>
    have H := HA.out
    clear HA
    simp only [spec_ProbeCut.l0] at H
    by_cases c15 : x6_1 < (l0_1.length : Int)
    ·rw [if_pos c15] at H
     have c15b0 : decide (x6_1 < (l0_1.length : Int)) = true := decide_eq_true c15
     clear c15
     by_cases c16 : 0 ≤ x6_1
     ·rw [if_pos c16] at H
      have c16b0 : decide (0 ≤ x6_1) = true := decide_eq_true c16
      clear c16
      by_cases c17 : ((rd_T26 l0_1 x6_1).f5) < a1
      ·rw [if_pos c17] at H
       have c17b0 : decide (((rd_T26 l0_1 x6_1).f5) < a1) = true := decide_eq_true c17
       clear c17
       have H' := Aside0.mk H
       clear H
       have hnb18 := NB397_398.out
       have hnc18 := NB398_397.out
       have hnb19 := NB397_399.out
       have hnc19 := NB399_397.out
       obtain ⟨hcz20_0, hcz20_1, hfz20_0, hfz20_1⟩ := zc2 BK397
       have p401 : 0 ≤ (x6_1 : Int) := od
       have q401 : x6_1 < (l0_1.length : Int) := od
       obtain ⟨ad401, e401, hx401_0, hx401_1, hx401_2, hx401_3, hx401_4, hx401_5⟩ := at_T26 HR0_1.out x6_1 p401 q401
       cases e401
       replace hx401_0 := hc HB hx401_0
       replace hx401_1 := hc HB hx401_1
       replace hx401_2 := hc HB hx401_2
       replace hx401_3 := hc HB hx401_3
       replace hx401_4 := hc HB hx401_4
       replace hx401_5 := hc HB hx401_5
       replace p401 := eq_true p401
       replace q401 := eq_true q401
       go_wp2_with (first | ((with_reducible refine gate_dst (N := 7) rfl ?_); refine be 7 #[.int .i64 0, .int .i64 0, .int .i64 0, .int .i64 0, .int .i64 0, .int .i64 0] 26 ?_; intro gb402 hg w21 hbox hb; have _ := ra (Kd.R_below (Kd.R_elderB (rq HO_400001) gb402 (Nat.le_of_eq hg.symm)) hb); have _ := bb (bk BK397) hb; have _ := bb (bk BK398) hb; have _ := bb (bk BK399) hb; have _ := bs hb; have _ := ra (hbox); have _ := bz (w0 := w) hg; have _ := bz (w0 := w) hg; have _ := bn hg (bk BK397); have _ := bm hg (bk BK397); have _ := bn hg (bk BK398); have _ := bm hg (bk BK398); have _ := bn hg (bk BK399); have _ := bm hg (bk BK399); clear HO_400001 BK397 BK398 BK399 HB; rename_i HO_400001 BK397 BK398 BK399 HB BK402 GW402 GE402 NB397_402 NB402_397 NB398_402 NB402_398 NB399_402 NB402_399; clear hb hbox hg; have hnb22 := NB402_397.out; have hnc22 := NB397_402.out; have hnb23 := NB402_398.out; have hnc23 := NB398_402.out; have hnb24 := NB402_399.out; have hnc24 := NB399_402.out; obtain ⟨hcz25_0, hcz25_1, hcz25_2, hcz25_3, hcz25_4, hcz25_5, hfz25_0, hfz25_1, hfz25_2, hfz25_3, hfz25_4, hfz25_5⟩ := zc6 BK402))
       go_roundg k1
       case measure => have := HK1.out; omega
       case rel => exact ⟨(wrap64 (x6_1 + 1)), (x400001_1), (u400001), rs, H', ⟨by have := HK1.out; omega⟩, ⟨by (with_reducible repeat (first | apply Kd.R_alloc | apply Kd.R_drewN | apply Kd.R_drew)); exact Kd.R_mono (rf (Kd.R_mono HO_400001.out (fun k_ hk => (⟨hk, hk.2⟩ : _ ∧ k_ ≠ gb402)))) (fun _ hk => trivial)⟩, ⟨bk BK397⟩, ⟨bk BK398⟩, ⟨bk BK399⟩, ⟨bq⟩⟩
      ·rw [if_neg c17] at H
       have c17b0 : decide (((rd_T26 l0_1 x6_1).f5) < a1) = false := decide_eq_false c17
       clear c17
       by_cases c26 : ((rd_T26 l0_1 x6_1).f4) < a1
       ·rw [if_pos c26] at H
        have c26b0 : decide (((rd_T26 l0_1 x6_1).f4) < a1) = true := decide_eq_true c26
        clear c26
        by_cases c27 : x400001_1.length < 2932031007402
        ·rw [if_pos c27] at H
         have LMc27 := Aside0.mk c27
         clear c27
         obtain ⟨y403, hy_⟩ : ∃ y_ : List (S26), y_ = (x400001_1 ++ [(⟨(rd_T26 l0_1 x6_1).f0, (rd_T26 l0_1 x6_1).f1, (rd_T26 l0_1 x6_1).f2, (rd_T26 l0_1 x6_1).f3, a1, (rd_T26 l0_1 x6_1).f5⟩ : S26)]) := ⟨_, rfl⟩
         replace H : (spec_ProbeCut.l0 k1 a1 (wrap64 (x6_1 + 1)) a0_0 l0_1 a0_0 y403) = some (r1, r2) := yh
         have Ny403 := ra hy_
         clear hy_
         have H' := Aside0.mk H
         clear H
         have hnb28 := NB397_398.out
         have hnc28 := NB398_397.out
         have hnb29 := NB397_399.out
         have hnc29 := NB399_397.out
         obtain ⟨hcz30_0, hcz30_1, hfz30_0, hfz30_1⟩ := zc2 BK397
         have p401 : 0 ≤ (x6_1 : Int) := od
         have q401 : x6_1 < (l0_1.length : Int) := od
         obtain ⟨ad401, e401, hx401_0, hx401_1, hx401_2, hx401_3, hx401_4, hx401_5⟩ := at_T26 HR0_1.out x6_1 p401 q401
         cases e401
         replace hx401_0 := hc HB hx401_0
         replace hx401_1 := hc HB hx401_1
         replace hx401_2 := hc HB hx401_2
         replace hx401_3 := hc HB hx401_3
         replace hx401_4 := hc HB hx401_4
         replace hx401_5 := hc HB hx401_5
         replace p401 := eq_true p401
         replace q401 := eq_true q401
         go_wp2_with (first | ((with_reducible refine gate_dst (N := 7) rfl ?_); refine be 7 #[.int .i64 0, .int .i64 0, .int .i64 0, .int .i64 0, .int .i64 0, .int .i64 0] 26 ?_; intro gb402 hg w31 hbox hb; have _ := ra (Kd.R_below (Kd.R_elderB (rq HO_400001) gb402 (Nat.le_of_eq hg.symm)) hb); have _ := bb (bk BK397) hb; have _ := bb (bk BK398) hb; have _ := bb (bk BK399) hb; have _ := bs hb; have _ := ra (hbox); have _ := bz (w0 := w) hg; have _ := bz (w0 := w) hg; have _ := bn hg (bk BK397); have _ := bm hg (bk BK397); have _ := bn hg (bk BK398); have _ := bm hg (bk BK398); have _ := bn hg (bk BK399); have _ := bm hg (bk BK399); clear HO_400001 BK397 BK398 BK399 HB; rename_i HO_400001 BK397 BK398 BK399 HB BK402 GW402 GE402 NB397_402 NB402_397 NB398_402 NB402_398 NB399_402 NB402_399; clear hb hbox hg; have hnb32 := NB402_397.out; have hnc32 := NB397_402.out; have hnb33 := NB402_398.out; have hnc33 := NB398_402.out; have hnb34 := NB402_399.out; have hnc34 := NB399_402.out; obtain ⟨hcz35_0, hcz35_1, hcz35_2, hcz35_3, hcz35_4, hcz35_5, hfz35_0, hfz35_1, hfz35_2, hfz35_3, hfz35_4, hfz35_5⟩ := zc6 BK402; have hnb36 := NB399_398.out; have hnc36 := NB398_399.out; obtain ⟨hcz37_0, hcz37_1, hfz37_0, hfz37_1⟩ := zc2 BK399) | ((with_reducible refine gate_store (t := 26) (p := 7) rfl ?_); refine bst #[.int .i64 ((rd_T26 l0_1 x6_1).f0), .int .i64 ((rd_T26 l0_1 x6_1).f1), .int .i64 ((rd_T26 l0_1 x6_1).f2), .int .i64 ((rd_T26 l0_1 x6_1).f3), .int .i64 ((rd_T26 l0_1 x6_1).f4), .int .i64 ((rd_T26 l0_1 x6_1).f5)] BK402 ?_; intro wa113 hbk hg; have m0 := ra hbk; have m1 := wg hg GE402; have m2 := rg (rf HO_400001.out) hg (fun _ hk => hk.2); have m3 := bg (bk BK397) hg NB397_402; have m4 := bg (bk BK398) hg NB398_402; have m5 := bg (bk BK399) hg NB399_402; clear BK402 HB HO_400001 BK397 BK398 BK399; have BK402 := m0; have HB := m1; have HO_400001 := m2; have BK397 := m3; have BK398 := m4; have BK399 := m5; clear hbk hg m0 m1 m2 m3 m4 m5; obtain ⟨hca_0, hca_1, hca_2, hca_3, hca_4, hca_5, hfa_0, hfa_1, hfa_2, hfa_3, hfa_4, hfa_5⟩ := zc6 BK402; obtain ⟨hcb_0, hcb_1, hfb_0, hfb_1⟩ := zc2 BK399) | ((with_reducible refine gate_store (t := 3) (p := 36) rfl ?_); refine bst #[.int .i64 ((rd_T26 l0_1 x6_1).f0), .int .i64 ((rd_T26 l0_1 x6_1).f1), .int .i64 ((rd_T26 l0_1 x6_1).f2), .int .i64 ((rd_T26 l0_1 x6_1).f3), .int .i64 a1, .int .i64 ((rd_T26 l0_1 x6_1).f5)] BK402 ?_; intro wb113 hbk hg; have m0 := ra hbk; have m1 := wg hg GE402; have m2 := rg (rf HO_400001.out) hg (fun _ hk => hk.2); have m3 := bg (bk BK397) hg NB397_402; have m4 := bg (bk BK398) hg NB398_402; have m5 := bg (bk BK399) hg NB399_402; clear BK402 HB HO_400001 BK397 BK398 BK399; have BK402 := m0; have HB := m1; have HO_400001 := m2; have BK397 := m3; have BK398 := m4; have BK399 := m5; clear hbk hg m0 m1 m2 m3 m4 m5; obtain ⟨hca_0, hca_1, hca_2, hca_3, hca_4, hca_5, hfa_0, hfa_1, hfa_2, hfa_3, hfa_4, hfa_5⟩ := zc6 BK402; obtain ⟨hcb_0, hcb_1, hfb_0, hfb_1⟩ := zc2 BK399) | ((with_reducible refine gate_builtin (b := .append) (xs := #[.tmp 38, .tmp 40]) rfl ?_); at_builtin; refine Kd.R_append k26 (w0 := w) w.heap.size rfl (.tmp 38) (.tmp 40) 37 26 (.agg #[(.int .i64 0), (.int .i64 0), (.int .i64 0), (.int .i64 0), (.int .i64 0), (.int .i64 0)]) 48 rfl Try.underlying37 info26 rfl (by decide) (by omega) u400001 x400001_1 (⟨(rd_T26 l0_1 x6_1).f0, (rd_T26 l0_1 x6_1).f1, (rd_T26 l0_1 x6_1).f2, (rd_T26 l0_1 x6_1).f3, a1, (rd_T26 l0_1 x6_1).f5⟩ : S26) [.int .i64 ((rd_T26 l0_1 x6_1).f0), .int .i64 ((rd_T26 l0_1 x6_1).f1), .int .i64 ((rd_T26 l0_1 x6_1).f2), .int .i64 ((rd_T26 l0_1 x6_1).f3), .int .i64 a1, .int .i64 ((rd_T26 l0_1 x6_1).f5)] (fun k_ => k_ ≠ gb402) (fun _ => False) rfl (by first | (go_simp; done) | (go_simp; rfl)) ?aP (fun _ hk => hk.elim) ?aF ?aO ?aB ?aS ?aL ?_; (case aP => exact k26_mkM _ _ _ (⟨(rd_T26 l0_1 x6_1).f0, (rd_T26 l0_1 x6_1).f1, (rd_T26 l0_1 x6_1).f2, (rd_T26 l0_1 x6_1).f3, a1, (rd_T26 l0_1 x6_1).f5⟩ : S26)); (case aB => exact bq); (case aF => exact (fun k_ hk => Kd.freshB (g := gb402) (o := .cells #[.int .i64 ((rd_T26 l0_1 x6_1).f0), .int .i64 ((rd_T26 l0_1 x6_1).f1), .int .i64 ((rd_T26 l0_1 x6_1).f2), .int .i64 ((rd_T26 l0_1 x6_1).f3), .int .i64 a1, .int .i64 ((rd_T26 l0_1 x6_1).f5)] 26 (0, 0)) (bp BK402) k_ hk)); (case aO => exact (by (with_reducible repeat (first | apply Kd.R_alloc | apply Kd.R_drewN | apply Kd.R_drew)); exact Kd.R_mono (rf (Kd.R_mono HO_400001.out (fun k_ hk => (⟨hk, hk.2⟩ : _ ∧ k_ ≠ gb402)))) (fun _ hk => hk.1.2))); (case aS => exact (below_size bq)); (case aL => have := LMc27.out; omega); intro v404 w38 ho hb hg hat; rw [← Ny403.out] at ho; have _ := ra (blk_grown (g := gb397) (o := .cells #[.string a0_0, .slice (some ad401) l0_1.length c0_1] 39 (0, 0)) (bk BK397) hg (Kd.R_ne HO_400001.out BK397.out (by decide))); have _ := ra (blk_grown (g := gb398) (o := .cells #[.string (⟨#[]⟩ : ByteArray), .slice none 0 0] 39 (0, 0)) (bk BK398) hg (Kd.R_ne HO_400001.out BK398.out (by decide))); have _ := ra (blk_grown (g := gb399) (o := .cells #[.string a0_0, u400001] 39 (0, 0)) (bk BK399) hg (Kd.R_ne HO_400001.out BK399.out (by decide))); have _ := ra (blk_grown (g := gb402) (o := .cells #[.int .i64 ((rd_T26 l0_1 x6_1).f0), .int .i64 ((rd_T26 l0_1 x6_1).f1), .int .i64 ((rd_T26 l0_1 x6_1).f2), .int .i64 ((rd_T26 l0_1 x6_1).f3), .int .i64 a1, .int .i64 ((rd_T26 l0_1 x6_1).f5)] 26 (0, 0)) (bp BK402) hg (Kd.R_away HO_400001.out (fun _ hk => hk.2))); have _ := ra (hb); have _ := ra (ho); clear BK397 BK398 BK399 BK402 HB HO_400001; rename_i BK397 BK398 BK399 BK402 HB HO405; clear ho hb hg hat; obtain ⟨Ao39, co39, eo39⟩ := Kd.R_slice HO405.out; subst eo39; obtain ⟨hcz40_0, hcz40_1, hfz40_0, hfz40_1⟩ := zc2 BK399))
         go_roundg k1
         case measure => have := HK1.out; omega
         case rel => exact ⟨(wrap64 (x6_1 + 1)), (y403), (.slice Ao39 y403.length co39), rs, H', ⟨by have := HK1.out; omega⟩, ⟨by (with_reducible repeat (first | apply Kd.R_alloc | apply Kd.R_drewN | apply Kd.R_drew)); exact Kd.R_mono (rf (Kd.R_types HO405.out BK399.out (by decide))) (fun _ hk => trivial)⟩, ⟨bk BK397⟩, ⟨bk BK398⟩, ⟨bp BK399⟩, ⟨bq⟩⟩
        ·rw [if_neg c27] at H
         exact absurd H (by simp)
       ·rw [if_neg c26] at H
        have c26b0 : decide (((rd_T26 l0_1 x6_1).f4) < a1) = false := decide_eq_false c26
        clear c26
        by_cases c41 : x400001_1.length < 2932031007402
        ·rw [if_pos c41] at H
         have LMc41 := Aside0.mk c41
         clear c41
         obtain ⟨y406, hy_⟩ : ∃ y_ : List (S26), y_ = (x400001_1 ++ [(⟨(rd_T26 l0_1 x6_1).f0, (rd_T26 l0_1 x6_1).f1, (rd_T26 l0_1 x6_1).f2, (rd_T26 l0_1 x6_1).f3, (rd_T26 l0_1 x6_1).f4, (rd_T26 l0_1 x6_1).f5⟩ : S26)]) := ⟨_, rfl⟩
         replace H : (spec_ProbeCut.l0 k1 a1 (wrap64 (x6_1 + 1)) a0_0 l0_1 a0_0 y406) = some (r1, r2) := yh
         have Ny406 := ra hy_
         clear hy_
         have H' := Aside0.mk H
         clear H
         have hnb42 := NB397_398.out
         have hnc42 := NB398_397.out
         have hnb43 := NB397_399.out
         have hnc43 := NB399_397.out
         obtain ⟨hcz44_0, hcz44_1, hfz44_0, hfz44_1⟩ := zc2 BK397
         have p401 : 0 ≤ (x6_1 : Int) := od
         have q401 : x6_1 < (l0_1.length : Int) := od
         obtain ⟨ad401, e401, hx401_0, hx401_1, hx401_2, hx401_3, hx401_4, hx401_5⟩ := at_T26 HR0_1.out x6_1 p401 q401
         cases e401
         replace hx401_0 := hc HB hx401_0
         replace hx401_1 := hc HB hx401_1
         replace hx401_2 := hc HB hx401_2
         replace hx401_3 := hc HB hx401_3
         replace hx401_4 := hc HB hx401_4
         replace hx401_5 := hc HB hx401_5
         replace p401 := eq_true p401
         replace q401 := eq_true q401
         go_wp2_with (first | ((with_reducible refine gate_dst (N := 7) rfl ?_); refine be 7 #[.int .i64 0, .int .i64 0, .int .i64 0, .int .i64 0, .int .i64 0, .int .i64 0] 26 ?_; intro gb402 hg w45 hbox hb; have _ := ra (Kd.R_below (Kd.R_elderB (rq HO_400001) gb402 (Nat.le_of_eq hg.symm)) hb); have _ := bb (bk BK397) hb; have _ := bb (bk BK398) hb; have _ := bb (bk BK399) hb; have _ := bs hb; have _ := ra (hbox); have _ := bz (w0 := w) hg; have _ := bz (w0 := w) hg; have _ := bn hg (bk BK397); have _ := bm hg (bk BK397); have _ := bn hg (bk BK398); have _ := bm hg (bk BK398); have _ := bn hg (bk BK399); have _ := bm hg (bk BK399); clear HO_400001 BK397 BK398 BK399 HB; rename_i HO_400001 BK397 BK398 BK399 HB BK402 GW402 GE402 NB397_402 NB402_397 NB398_402 NB402_398 NB399_402 NB402_399; clear hb hbox hg; have hnb46 := NB402_397.out; have hnc46 := NB397_402.out; have hnb47 := NB402_398.out; have hnc47 := NB398_402.out; have hnb48 := NB402_399.out; have hnc48 := NB399_402.out; obtain ⟨hcz49_0, hcz49_1, hcz49_2, hcz49_3, hcz49_4, hcz49_5, hfz49_0, hfz49_1, hfz49_2, hfz49_3, hfz49_4, hfz49_5⟩ := zc6 BK402; have hnb50 := NB399_398.out; have hnc50 := NB398_399.out; obtain ⟨hcz51_0, hcz51_1, hfz51_0, hfz51_1⟩ := zc2 BK399) | ((with_reducible refine gate_store (t := 26) (p := 7) rfl ?_); refine bst #[.int .i64 ((rd_T26 l0_1 x6_1).f0), .int .i64 ((rd_T26 l0_1 x6_1).f1), .int .i64 ((rd_T26 l0_1 x6_1).f2), .int .i64 ((rd_T26 l0_1 x6_1).f3), .int .i64 ((rd_T26 l0_1 x6_1).f4), .int .i64 ((rd_T26 l0_1 x6_1).f5)] BK402 ?_; intro wa149 hbk hg; have m0 := ra hbk; have m1 := wg hg GE402; have m2 := rg (rf HO_400001.out) hg (fun _ hk => hk.2); have m3 := bg (bk BK397) hg NB397_402; have m4 := bg (bk BK398) hg NB398_402; have m5 := bg (bk BK399) hg NB399_402; clear BK402 HB HO_400001 BK397 BK398 BK399; have BK402 := m0; have HB := m1; have HO_400001 := m2; have BK397 := m3; have BK398 := m4; have BK399 := m5; clear hbk hg m0 m1 m2 m3 m4 m5; obtain ⟨hca_0, hca_1, hca_2, hca_3, hca_4, hca_5, hfa_0, hfa_1, hfa_2, hfa_3, hfa_4, hfa_5⟩ := zc6 BK402; obtain ⟨hcb_0, hcb_1, hfb_0, hfb_1⟩ := zc2 BK399) | ((with_reducible refine gate_builtin (b := .append) (xs := #[.tmp 38, .tmp 40]) rfl ?_); at_builtin; refine Kd.R_append k26 (w0 := w) w.heap.size rfl (.tmp 38) (.tmp 40) 37 26 (.agg #[(.int .i64 0), (.int .i64 0), (.int .i64 0), (.int .i64 0), (.int .i64 0), (.int .i64 0)]) 48 rfl Try.underlying37 info26 rfl (by decide) (by omega) u400001 x400001_1 (⟨(rd_T26 l0_1 x6_1).f0, (rd_T26 l0_1 x6_1).f1, (rd_T26 l0_1 x6_1).f2, (rd_T26 l0_1 x6_1).f3, (rd_T26 l0_1 x6_1).f4, (rd_T26 l0_1 x6_1).f5⟩ : S26) [.int .i64 ((rd_T26 l0_1 x6_1).f0), .int .i64 ((rd_T26 l0_1 x6_1).f1), .int .i64 ((rd_T26 l0_1 x6_1).f2), .int .i64 ((rd_T26 l0_1 x6_1).f3), .int .i64 ((rd_T26 l0_1 x6_1).f4), .int .i64 ((rd_T26 l0_1 x6_1).f5)] (fun k_ => k_ ≠ gb402) (fun _ => False) rfl (by first | (go_simp; done) | (go_simp; rfl)) ?aP (fun _ hk => hk.elim) ?aF ?aO ?aB ?aS ?aL ?_; (case aP => exact k26_mkM _ _ _ (⟨(rd_T26 l0_1 x6_1).f0, (rd_T26 l0_1 x6_1).f1, (rd_T26 l0_1 x6_1).f2, (rd_T26 l0_1 x6_1).f3, (rd_T26 l0_1 x6_1).f4, (rd_T26 l0_1 x6_1).f5⟩ : S26)); (case aB => exact bq); (case aF => exact (fun k_ hk => Kd.freshB (g := gb402) (o := .cells #[.int .i64 ((rd_T26 l0_1 x6_1).f0), .int .i64 ((rd_T26 l0_1 x6_1).f1), .int .i64 ((rd_T26 l0_1 x6_1).f2), .int .i64 ((rd_T26 l0_1 x6_1).f3), .int .i64 ((rd_T26 l0_1 x6_1).f4), .int .i64 ((rd_T26 l0_1 x6_1).f5)] 26 (0, 0)) (bp BK402) k_ hk)); (case aO => exact (by (with_reducible repeat (first | apply Kd.R_alloc | apply Kd.R_drewN | apply Kd.R_drew)); exact Kd.R_mono (rf (Kd.R_mono HO_400001.out (fun k_ hk => (⟨hk, hk.2⟩ : _ ∧ k_ ≠ gb402)))) (fun _ hk => hk.1.2))); (case aS => exact (below_size bq)); (case aL => have := LMc41.out; omega); intro v407 w52 ho hb hg hat; rw [← Ny406.out] at ho; have _ := ra (blk_grown (g := gb397) (o := .cells #[.string a0_0, .slice (some ad401) l0_1.length c0_1] 39 (0, 0)) (bk BK397) hg (Kd.R_ne HO_400001.out BK397.out (by decide))); have _ := ra (blk_grown (g := gb398) (o := .cells #[.string (⟨#[]⟩ : ByteArray), .slice none 0 0] 39 (0, 0)) (bk BK398) hg (Kd.R_ne HO_400001.out BK398.out (by decide))); have _ := ra (blk_grown (g := gb399) (o := .cells #[.string a0_0, u400001] 39 (0, 0)) (bk BK399) hg (Kd.R_ne HO_400001.out BK399.out (by decide))); have _ := ra (blk_grown (g := gb402) (o := .cells #[.int .i64 ((rd_T26 l0_1 x6_1).f0), .int .i64 ((rd_T26 l0_1 x6_1).f1), .int .i64 ((rd_T26 l0_1 x6_1).f2), .int .i64 ((rd_T26 l0_1 x6_1).f3), .int .i64 ((rd_T26 l0_1 x6_1).f4), .int .i64 ((rd_T26 l0_1 x6_1).f5)] 26 (0, 0)) (bp BK402) hg (Kd.R_away HO_400001.out (fun _ hk => hk.2))); have _ := ra (hb); have _ := ra (ho); clear BK397 BK398 BK399 BK402 HB HO_400001; rename_i BK397 BK398 BK399 BK402 HB HO408; clear ho hb hg hat; obtain ⟨Ao53, co53, eo53⟩ := Kd.R_slice HO408.out; subst eo53; obtain ⟨hcz54_0, hcz54_1, hfz54_0, hfz54_1⟩ := zc2 BK399))
         go_roundg k1
         case measure => have := HK1.out; omega
         case rel => exact ⟨(wrap64 (x6_1 + 1)), (y406), (.slice Ao53 y406.length co53), rs, H', ⟨by have := HK1.out; omega⟩, ⟨by (with_reducible repeat (first | apply Kd.R_alloc | apply Kd.R_drewN | apply Kd.R_drew)); exact Kd.R_mono (rf (Kd.R_types HO408.out BK399.out (by decide))) (fun _ hk => trivial)⟩, ⟨bk BK397⟩, ⟨bk BK398⟩, ⟨bp BK399⟩, ⟨bq⟩⟩
        ·rw [if_neg c41] at H
         exact absurd H (by simp)
     ·rw [if_neg c16] at H
      exact absurd H (by simp)
    ·rw [if_neg c15] at H
     have c15b0 : decide (x6_1 < (l0_1.length : Int)) = false := decide_eq_false c15
     clear c15
     simp only [Option.some.injEq, Prod.mk.injEq] at H
     obtain ⟨rfl, rfl⟩ := H
     have hnb55 := NB397_398.out
     have hnc55 := NB398_397.out
     have hnb56 := NB397_399.out
     have hnc56 := NB399_397.out
     obtain ⟨hcz57_0, hcz57_1, hfz57_0, hfz57_1⟩ := zc2 BK397
     have hnb58 := NB399_398.out
     have hnc58 := NB398_399.out
     obtain ⟨hcz59_0, hcz59_1, hfz59_0, hfz59_1⟩ := zc2 BK399
     obtain ⟨hcz60_0, hcz60_1, hfz60_0, hfz60_1⟩ := zc2 BK398
     obtain ⟨Ao61, co61, eo61⟩ := Kd.R_slice HO_400001.out
     subst eo61
     go_wp2
     refine bodyPost_ret (results_cell_row rfl _ _ gb398 39 #[.string a0_0, .slice Ao61 x400001_1.length co61] (0, 0) _ rfl (bp BK398) Try.underlying39 rfl (by kernel_rfl)) rfl ?_
     exact ⟨_, re, by (with_reducible repeat (first | apply Kd.R_alloc | apply Kd.R_drewN | apply Kd.R_drew)); exact Kd.R_mono (rf (Kd.R_types HO_400001.out BK398.out (by decide))) (fun _ hk => trivial), bq⟩
 ·replace c4 := Bool.eq_false_iff.mpr c4
  subst c4
  have H1 : (some ((⟨#[]⟩ : ByteArray), ([] : List (S26)))) = some (r1, r2) := by rw [if_neg (show ¬ (false = true) by decide)] at H; exact H
  clear H
  have H := H1
  clear H1
  simp only [Option.some.injEq, Prod.mk.injEq] at H
  obtain ⟨rfl, rfl⟩ := H
  go_enter Try.func35, Try.ntmps35
  go_wp2_with (first | ((with_reducible refine gate_dst (N := 2) rfl ?_); refine be 2 #[.string a0_0, .slice A0_1 l0_1.length c0_1] 39 ?_; intro gb397 hg w62 hbox hb; have _ := bs hb; have _ := ra (hbox); have _ := bz (w0 := w) hg; have _ := bz (w0 := w) hg; clear HB; rename_i HB BK397 GW397 GE397; clear hb hbox hg) | ((with_reducible refine gate_dst (N := 4) rfl ?_); refine be 4 #[.string (⟨#[]⟩ : ByteArray), .slice none 0 0] 39 ?_; intro gb398 hg w63 hbox hb; have _ := bb (bk BK397) hb; have _ := bs hb; have _ := ra (hbox); have _ := bz (w0 := w) hg; have _ := bz (w0 := w) hg; have _ := bn hg (bk BK397); have _ := bm hg (bk BK397); clear BK397 HB; rename_i BK397 HB BK398 GW398 GE398 NB397_398 NB398_397; clear hb hbox hg; have hnb64 := NB397_398.out; have hnc64 := NB398_397.out; obtain ⟨hcz65_0, hcz65_1, hfz65_0, hfz65_1⟩ := zc2 BK397) | ((with_reducible refine gate_dst (N := 5) rfl ?_); refine be 5 #[.string (⟨#[]⟩ : ByteArray), .slice none 0 0] 39 ?_; intro gb399 hg w66 hbox hb; have _ := bb (bk BK397) hb; have _ := bb (bk BK398) hb; have _ := bs hb; have _ := ra (hbox); have _ := bz (w0 := w) hg; have _ := bz (w0 := w) hg; have _ := bn hg (bk BK397); have _ := bm hg (bk BK397); have _ := bn hg (bk BK398); have _ := bm hg (bk BK398); clear BK397 BK398 HB; rename_i BK397 BK398 HB BK399 GW399 GE399 NB397_399 NB399_397 NB398_399 NB399_398; clear hb hbox hg; have hnb67 := NB399_397.out; have hnc67 := NB397_399.out; have hnb68 := NB399_398.out; have hnc68 := NB398_399.out; obtain ⟨hcz69_0, hcz69_1, hfz69_0, hfz69_1⟩ := zc2 BK399; obtain ⟨hcz70_0, hcz70_1, hfz70_0, hfz70_1⟩ := zc2 BK397) | ((with_reducible refine gate_callee (f := 21) rfl ?_); refine gl (some 12) Try.func21 #[.agg #[.string a0_0, .slice A0_1 l0_1.length c0_1]] ?_; (with_reducible refine (spec_ProbeTubeOk.calls k a0_0 _ _ l0_1 false _ ?side1 ?side2 A3.out).mono ?_); (case side1 => exact Kd.C_below HR0_1.out bq); (case side2 => exact HC0_1.out); rintro e w71 ⟨rfl, hb⟩; refine ⟨_, rfl, ?_⟩; have _ := bb (bk BK397) hb; have _ := bb (bk BK398) hb; have _ := bb (o := .cells #[.string a0_0, .slice none 0 0] 39 (0, 0)) (bp BK399) hb; have _ := bs hb; clear BK397 BK398 BK399 HB; rename_i BK397 BK398 BK399 HB; (try clear hb); (try clear hb2); (try clear hk); (try clear hi); obtain ⟨hcz72_0, hcz72_1, hfz72_0, hfz72_1⟩ := zc2 BK398))
  refine bodyPost_ret (results_cell_row rfl _ _ gb398 39 #[.string (⟨#[]⟩ : ByteArray), .slice none 0 0] (0, 0) _ rfl (bp BK398) Try.underlying39 rfl (by kernel_rfl)) rfl ?_
  exact ⟨_, re, by first | exact Kd.R_nil _ _ _ _ _ | exact Kd.N_nil _ _ _ _ _ | exact Kd.V_nil _ _ _ _ _ | exact Kd.Q_nil _ _ _ _ _ | exact Kd.S_nil _ _ _ _ _, bq⟩
set_option maxHeartbeats 8000000 in
set_option maxRecDepth 100000 in
theorem impl_ProbeCut.calls (k : Nat) (a0_0 : ByteArray) (A0_1 : Option Addr) (c0_1 : Nat) (l0_1 : List (S26)) (a1 : Int) (r1 : ByteArray) (r2 : List (S26)) (w : World) (hr0_1 : Kd.C k26 w A0_1 l0_1.length l0_1) (hc0_1 : l0_1.length ≤ c0_1) (h : impl_ProbeCut.f k a0_0 l0_1 a1 = some (r1, r2)) :
  Calls Try.prog 36 #[.agg #[.string a0_0, .slice A0_1 l0_1.length c0_1], .int .i64 a1] w fun e w' => ∃ v1_ : Value, e = .returned (.agg #[.string r1, v1_]) ∧ Kd.R k26 26 w' w.heap.size (fun _ => True) v1_ r2 ∧ Below w.heap.size w w' := by
 have hu39 := Try.underlying39
 have hu26 := Try.underlying26
 have HR0_1 := Aside0.mk hr0_1
 have HC0_1 := Aside0.mk hc0_1
 clear hr0_1 hc0_1
 have HB := ra (Below.refl w.heap.size w)
 have H : ((impl_ProbeTubeOk.f k a0_0 l0_1).bind fun t411 => (if t411 = true then (impl_ProbeCut.l0 k a1 l0_1 (l0_1.length : Int) 0 a0_0 ([] : List (S26))) else (some ((⟨#[]⟩ : ByteArray), ([] : List (S26)))))) = some (r1, r2) := h
 clear h
 obtain ⟨t411, A3, H⟩ := bo H
 by_cases c4 : t411 = true
 ·subst c4
  replace H := it H rfl
  have H' := Aside0.mk H
  clear H
  go_enter Try.func36, Try.ntmps36
  go_wp2_with (first | ((with_reducible refine gate_dst (N := 2) rfl ?_); refine be 2 #[.string a0_0, .slice A0_1 l0_1.length c0_1] 39 ?_; intro gb409 hg w5 hbox hb; have _ := bs hb; have _ := ra (hbox); have _ := bz (w0 := w) hg; have _ := bz (w0 := w) hg; clear HB; rename_i HB BK409 GW409 GE409; clear hb hbox hg) | ((with_reducible refine gate_dst (N := 4) rfl ?_); refine be 4 #[.string (⟨#[]⟩ : ByteArray), .slice none 0 0] 39 ?_; intro gb410 hg w6 hbox hb; have _ := bb (bk BK409) hb; have _ := bs hb; have _ := ra (hbox); have _ := bz (w0 := w) hg; have _ := bz (w0 := w) hg; have _ := bn hg (bk BK409); have _ := bm hg (bk BK409); clear BK409 HB; rename_i BK409 HB BK410 GW410 GE410 NB409_410 NB410_409; clear hb hbox hg; have hnb7 := NB409_410.out; have hnc7 := NB410_409.out; obtain ⟨hcz8_0, hcz8_1, hfz8_0, hfz8_1⟩ := zc2 BK409) | ((with_reducible refine gate_callee (f := 23) rfl ?_); refine gl (some 9) Try.func23 #[.agg #[.string a0_0, .slice A0_1 l0_1.length c0_1]] ?_; (with_reducible refine (impl_ProbeTubeOk.calls k a0_0 _ _ l0_1 true _ ?side1 ?side2 A3.out).mono ?_); (case side1 => exact sc HR0_1); (case side2 => exact HC0_1.out); rintro e w9 ⟨rfl, hb⟩; refine ⟨_, rfl, ?_⟩; have _ := bb (bk BK409) hb; have _ := bb (bk BK410) hb; have _ := bs hb; clear BK409 BK410 HB; rename_i BK409 BK410 HB; (try clear hb); (try clear hb2); (try clear hk); (try clear hi); obtain ⟨hcz10_0, hcz10_1, hfz10_0, hfz10_1⟩ := zc2 BK409) | ((with_reducible refine gate_dst (N := 5) rfl ?_); refine be 5 #[.string (⟨#[]⟩ : ByteArray), .slice none 0 0] 39 ?_; intro gb412 hg w11 hbox hb; have _ := bb (bk BK409) hb; have _ := bb (bk BK410) hb; have _ := bs hb; have _ := ra (hbox); have _ := bz (w0 := w) hg; have _ := bz (w0 := w) hg; have _ := bn hg (bk BK409); have _ := bm hg (bk BK409); have _ := bn hg (bk BK410); have _ := bm hg (bk BK410); clear BK409 BK410 HB; rename_i BK409 BK410 HB BK412 GW412 GE412 NB409_412 NB412_409 NB410_412 NB412_410; clear hb hbox hg; have hnb12 := NB412_409.out; have hnc12 := NB409_412.out; have hnb13 := NB412_410.out; have hnc13 := NB410_412.out; obtain ⟨hcz14_0, hcz14_1, hfz14_0, hfz14_1⟩ := zc2 BK412; obtain ⟨hcz15_0, hcz15_1, hfz15_0, hfz15_1⟩ := zc2 BK409))
  go_loopg [18] k (fun kq v18 w' => ∃ (x18_1 : Int) (x413001_1 : List (S26)) (u413001 : Value), v18 = .int .i64 x18_1 ∧ Aside0 (impl_ProbeCut.l0 kq a1 l0_1 (l0_1.length : Int) x18_1 a0_0 x413001_1 = some (r1, r2)) ∧ Aside0 (kq ≤ k) ∧ Aside0 (Kd.R k26 26 w' w.heap.size (fun _ => True) u413001 x413001_1) ∧ Aside0 (w'.heap[gb409]? = some (.cells #[.string a0_0, (.slice A0_1 l0_1.length c0_1)] 39 (0, 0))) ∧ Aside0 (w'.heap[gb410]? = some (.cells #[.string (⟨#[]⟩ : ByteArray), (.slice none 0 0)] 39 (0, 0))) ∧ Aside0 (w'.heap[gb412]? = some (.cells #[.string a0_0, u413001] 39 (0, 0))) ∧ Aside0 (Below w.heap.size w w'))
  case atStart => exact ⟨(0), (([] : List (S26))), (.slice none 0 0), rs, H', ⟨Nat.le_refl _⟩, ⟨by first | exact Kd.R_nil _ _ _ _ _ | exact Kd.N_nil _ _ _ _ _ | exact Kd.V_nil _ _ _ _ _ | exact Kd.Q_nil _ _ _ _ _ | exact Kd.S_nil _ _ _ _ _⟩, ⟨bk BK409⟩, ⟨bk BK410⟩, ⟨bp BK412⟩, ⟨bq⟩⟩
  case round =>
   clear H'
   try clear c4
   try clear hcz10_0
   try clear hcz10_1
   try clear hcz14_0
   try clear hcz14_1
   try clear hcz15_0
   try clear hcz15_1
   try clear hcz8_0
   try clear hcz8_1
   try clear hfz10_0
   try clear hfz10_1
   try clear hfz14_0
   try clear hfz14_1
   try clear hfz15_0
   try clear hfz15_1
   try clear hfz8_0
   try clear hfz8_1
   obtain ⟨x18_1, x413001_1, u413001, rfl, HA, HK1, HO_413001, BK409, BK410, BK412, HB⟩ := hrel
   cases gk with
   | zero => exact absurd HA.out (by simp [impl_ProbeCut.l0])
   | succ k1 =>
    have H := HA.out
    clear HA
    simp only [impl_ProbeCut.l0] at H
    by_cases c16 : x18_1 < (l0_1.length : Int)
    ·rw [if_pos c16] at H
     have c16b0 : decide (x18_1 < (l0_1.length : Int)) = true := decide_eq_true c16
     clear c16
     by_cases c17 : 0 ≤ x18_1
     ·rw [if_pos c17] at H
      have c17b0 : decide (0 ≤ x18_1) = true := decide_eq_true c17
      clear c17
      by_cases c18 : x18_1 < (l0_1.length : Int)
      ·rw [if_pos c18] at H
       have c18b0 : decide (x18_1 < (l0_1.length : Int)) = true := decide_eq_true c18
       clear c18
       by_cases c19 : ((rd_T26 l0_1 x18_1).f5) ≥ a1
       ·rw [if_pos c19] at H
        have c19b0 : decide (a1 ≤ ((rd_T26 l0_1 x18_1).f5)) = true := decide_eq_true c19
        clear c19
        obtain ⟨ji20, hji20⟩ : ∃ j_ : Int, (mx ((rd_T26 l0_1 x18_1).f4) a1) = j_ := ⟨_, rfl⟩
        replace H : (if x413001_1.length < 2932031007402 then (impl_ProbeCut.l0 k1 a1 l0_1 (l0_1.length : Int) (wrap64 (x18_1 + 1)) a0_0 (x413001_1 ++ [(⟨(rd_T26 l0_1 x18_1).f0, (rd_T26 l0_1 x18_1).f1, (rd_T26 l0_1 x18_1).f2, (rd_T26 l0_1 x18_1).f3, ji20, (rd_T26 l0_1 x18_1).f5⟩ : S26)])) else (none)) = some (r1, r2) := by first | (rw [hji20] at H; exact H) | (simp only [hji20] at H ⊢; exact H)
        have hji20_ : (if ((rd_T26 l0_1 x18_1).f4) < a1 then a1 else ((rd_T26 l0_1 x18_1).f4)) = ji20 := hji20
        by_cases c21 : x413001_1.length < 2932031007402
        ·rw [if_pos c21] at H
         have LMc21 := Aside0.mk c21
         clear c21
         obtain ⟨y415, hy_⟩ : ∃ y_ : List (S26), y_ = (x413001_1 ++ [(⟨(rd_T26 l0_1 x18_1).f0, (rd_T26 l0_1 x18_1).f1, (rd_T26 l0_1 x18_1).f2, (rd_T26 l0_1 x18_1).f3, ji20, (rd_T26 l0_1 x18_1).f5⟩ : S26)]) := ⟨_, rfl⟩
         replace H : (impl_ProbeCut.l0 k1 a1 l0_1 (l0_1.length : Int) (wrap64 (x18_1 + 1)) a0_0 y415) = some (r1, r2) := yh
         have Ny415 := ra hy_
         clear hy_
         have H' := Aside0.mk H
         clear H
         have p413 : 0 ≤ (x18_1 : Int) := od
         have q413 : x18_1 < (l0_1.length : Int) := od
         obtain ⟨ad413, e413, hx413_0, hx413_1, hx413_2, hx413_3, hx413_4, hx413_5⟩ := at_T26 HR0_1.out x18_1 p413 q413
         cases e413
         replace hx413_0 := hc HB hx413_0
         replace hx413_1 := hc HB hx413_1
         replace hx413_2 := hc HB hx413_2
         replace hx413_3 := hc HB hx413_3
         replace hx413_4 := hc HB hx413_4
         replace hx413_5 := hc HB hx413_5
         replace p413 := eq_true p413
         replace q413 := eq_true q413
         go_wp2_with (first | ((with_reducible refine gate_dst (N := 7) rfl ?_); refine be 7 #[.int .i64 0, .int .i64 0, .int .i64 0, .int .i64 0, .int .i64 0, .int .i64 0] 26 ?_; intro gb414 hg w22 hbox hb; have _ := ra (Kd.R_below (Kd.R_elderB (rq HO_413001) gb414 (Nat.le_of_eq hg.symm)) hb); have _ := bb (bk BK409) hb; have _ := bb (bk BK410) hb; have _ := bb (bk BK412) hb; have _ := bs hb; have _ := ra (hbox); have _ := bz (w0 := w) hg; have _ := bz (w0 := w) hg; have _ := bn hg (bk BK409); have _ := bm hg (bk BK409); have _ := bn hg (bk BK410); have _ := bm hg (bk BK410); have _ := bn hg (bk BK412); have _ := bm hg (bk BK412); clear HO_413001 BK409 BK410 BK412 HB; rename_i HO_413001 BK409 BK410 BK412 HB BK414 GW414 GE414 NB409_414 NB414_409 NB410_414 NB414_410 NB412_414 NB414_412; clear hb hbox hg; have hnb23 := NB414_409.out; have hnc23 := NB409_414.out; have hnb24 := NB414_410.out; have hnc24 := NB410_414.out; have hnb25 := NB414_412.out; have hnc25 := NB412_414.out; obtain ⟨hcz26_0, hcz26_1, hcz26_2, hcz26_3, hcz26_4, hcz26_5, hfz26_0, hfz26_1, hfz26_2, hfz26_3, hfz26_4, hfz26_5⟩ := zc6 BK414; have hnb27 := NB412_409.out; have hnc27 := NB409_412.out; have hnb28 := NB412_410.out; have hnc28 := NB410_412.out; obtain ⟨hcz29_0, hcz29_1, hfz29_0, hfz29_1⟩ := zc2 BK412) | ((with_reducible refine gate_store (t := 26) (p := 7) rfl ?_); refine bst #[.int .i64 ((rd_T26 l0_1 x18_1).f0), .int .i64 ((rd_T26 l0_1 x18_1).f1), .int .i64 ((rd_T26 l0_1 x18_1).f2), .int .i64 ((rd_T26 l0_1 x18_1).f3), .int .i64 ((rd_T26 l0_1 x18_1).f4), .int .i64 ((rd_T26 l0_1 x18_1).f5)] BK414 ?_; intro wa89 hbk hg; have m0 := ra hbk; have m1 := wg hg GE414; have m2 := rg (rf HO_413001.out) hg (fun _ hk => hk.2); have m3 := bg (bk BK409) hg NB409_414; have m4 := bg (bk BK410) hg NB410_414; have m5 := bg (bk BK412) hg NB412_414; clear BK414 HB HO_413001 BK409 BK410 BK412; have BK414 := m0; have HB := m1; have HO_413001 := m2; have BK409 := m3; have BK410 := m4; have BK412 := m5; clear hbk hg m0 m1 m2 m3 m4 m5; obtain ⟨hca_0, hca_1, hca_2, hca_3, hca_4, hca_5, hfa_0, hfa_1, hfa_2, hfa_3, hfa_4, hfa_5⟩ := zc6 BK414; obtain ⟨hcb_0, hcb_1, hfb_0, hfb_1⟩ := zc2 BK412) | ((with_reducible refine gate_store (t := 3) (p := 30) rfl ?_); refine bst #[.int .i64 ((rd_T26 l0_1 x18_1).f0), .int .i64 ((rd_T26 l0_1 x18_1).f1), .int .i64 ((rd_T26 l0_1 x18_1).f2), .int .i64 ((rd_T26 l0_1 x18_1).f3), .int .i64 ji20, .int .i64 ((rd_T26 l0_1 x18_1).f5)] BK414 ?_; intro wb89 hbk hg; have m0 := ra hbk; have m1 := wg hg GE414; have m2 := rg (rf HO_413001.out) hg (fun _ hk => hk.2); have m3 := bg (bk BK409) hg NB409_414; have m4 := bg (bk BK410) hg NB410_414; have m5 := bg (bk BK412) hg NB412_414; clear BK414 HB HO_413001 BK409 BK410 BK412; have BK414 := m0; have HB := m1; have HO_413001 := m2; have BK409 := m3; have BK410 := m4; have BK412 := m5; clear hbk hg m0 m1 m2 m3 m4 m5; obtain ⟨hca_0, hca_1, hca_2, hca_3, hca_4, hca_5, hfa_0, hfa_1, hfa_2, hfa_3, hfa_4, hfa_5⟩ := zc6 BK414; obtain ⟨hcb_0, hcb_1, hfb_0, hfb_1⟩ := zc2 BK412) | ((with_reducible refine gate_builtin (b := .append) (xs := #[.tmp 32, .tmp 34]) rfl ?_); at_builtin; refine Kd.R_append k26 (w0 := w) w.heap.size rfl (.tmp 32) (.tmp 34) 37 26 (.agg #[(.int .i64 0), (.int .i64 0), (.int .i64 0), (.int .i64 0), (.int .i64 0), (.int .i64 0)]) 48 rfl Try.underlying37 info26 rfl (by decide) (by omega) u413001 x413001_1 (⟨(rd_T26 l0_1 x18_1).f0, (rd_T26 l0_1 x18_1).f1, (rd_T26 l0_1 x18_1).f2, (rd_T26 l0_1 x18_1).f3, ji20, (rd_T26 l0_1 x18_1).f5⟩ : S26) [.int .i64 ((rd_T26 l0_1 x18_1).f0), .int .i64 ((rd_T26 l0_1 x18_1).f1), .int .i64 ((rd_T26 l0_1 x18_1).f2), .int .i64 ((rd_T26 l0_1 x18_1).f3), .int .i64 ji20, .int .i64 ((rd_T26 l0_1 x18_1).f5)] (fun k_ => k_ ≠ gb414) (fun _ => False) rfl (by first | (go_simp; done) | (go_simp; rfl)) ?aP (fun _ hk => hk.elim) ?aF ?aO ?aB ?aS ?aL ?_; (case aP => exact k26_mkM _ _ _ (⟨(rd_T26 l0_1 x18_1).f0, (rd_T26 l0_1 x18_1).f1, (rd_T26 l0_1 x18_1).f2, (rd_T26 l0_1 x18_1).f3, ji20, (rd_T26 l0_1 x18_1).f5⟩ : S26)); (case aB => exact bq); (case aF => exact (fun k_ hk => Kd.freshB (g := gb414) (o := .cells #[.int .i64 ((rd_T26 l0_1 x18_1).f0), .int .i64 ((rd_T26 l0_1 x18_1).f1), .int .i64 ((rd_T26 l0_1 x18_1).f2), .int .i64 ((rd_T26 l0_1 x18_1).f3), .int .i64 ji20, .int .i64 ((rd_T26 l0_1 x18_1).f5)] 26 (0, 0)) (bp BK414) k_ hk)); (case aO => exact (by (with_reducible repeat (first | apply Kd.R_alloc | apply Kd.R_drewN | apply Kd.R_drew)); exact Kd.R_mono (rf (Kd.R_mono HO_413001.out (fun k_ hk => (⟨hk, hk.2⟩ : _ ∧ k_ ≠ gb414)))) (fun _ hk => hk.1.2))); (case aS => exact (below_size bq)); (case aL => have := LMc21.out; omega); intro v416 w30 ho hb hg hat; rw [← Ny415.out] at ho; have _ := ra (blk_grown (g := gb409) (o := .cells #[.string a0_0, .slice (some ad413) l0_1.length c0_1] 39 (0, 0)) (bk BK409) hg (Kd.R_ne HO_413001.out BK409.out (by decide))); have _ := ra (blk_grown (g := gb410) (o := .cells #[.string (⟨#[]⟩ : ByteArray), .slice none 0 0] 39 (0, 0)) (bk BK410) hg (Kd.R_ne HO_413001.out BK410.out (by decide))); have _ := ra (blk_grown (g := gb412) (o := .cells #[.string a0_0, u413001] 39 (0, 0)) (bk BK412) hg (Kd.R_ne HO_413001.out BK412.out (by decide))); have _ := ra (blk_grown (g := gb414) (o := .cells #[.int .i64 ((rd_T26 l0_1 x18_1).f0), .int .i64 ((rd_T26 l0_1 x18_1).f1), .int .i64 ((rd_T26 l0_1 x18_1).f2), .int .i64 ((rd_T26 l0_1 x18_1).f3), .int .i64 ji20, .int .i64 ((rd_T26 l0_1 x18_1).f5)] 26 (0, 0)) (bp BK414) hg (Kd.R_away HO_413001.out (fun _ hk => hk.2))); have _ := ra (hb); have _ := ra (ho); clear BK409 BK410 BK412 BK414 HB HO_413001; rename_i BK409 BK410 BK412 BK414 HB HO417; clear ho hb hg hat; obtain ⟨Ao31, co31, eo31⟩ := Kd.R_slice HO417.out; subst eo31; obtain ⟨hcz32_0, hcz32_1, hfz32_0, hfz32_1⟩ := zc2 BK412))
         go_roundg k1
         case measure => have := HK1.out; omega
         case rel => exact ⟨(wrap64 (x18_1 + 1)), (y415), (.slice Ao31 y415.length co31), rs, H', ⟨by have := HK1.out; omega⟩, ⟨by (with_reducible repeat (first | apply Kd.R_alloc | apply Kd.R_drewN | apply Kd.R_drew)); exact Kd.R_mono (rf (Kd.R_types HO417.out BK412.out (by decide))) (fun _ hk => trivial)⟩, ⟨bk BK409⟩, ⟨bk BK410⟩, ⟨bp BK412⟩, ⟨bq⟩⟩
        ·rw [if_neg c21] at H
         exact absurd H (by simp)
       ·rw [if_neg c19] at H
        have c19b0 : decide (a1 ≤ ((rd_T26 l0_1 x18_1).f5)) = false := decide_eq_false c19
        clear c19
        have H' := Aside0.mk H
        clear H
        have p413 : 0 ≤ (x18_1 : Int) := od
        have q413 : x18_1 < (l0_1.length : Int) := od
        obtain ⟨ad413, e413, hx413_0, hx413_1, hx413_2, hx413_3, hx413_4, hx413_5⟩ := at_T26 HR0_1.out x18_1 p413 q413
        cases e413
        replace hx413_0 := hc HB hx413_0
        replace hx413_1 := hc HB hx413_1
        replace hx413_2 := hc HB hx413_2
        replace hx413_3 := hc HB hx413_3
        replace hx413_4 := hc HB hx413_4
        replace hx413_5 := hc HB hx413_5
        replace p413 := eq_true p413
        replace q413 := eq_true q413
        go_wp2_with (first | ((with_reducible refine gate_dst (N := 7) rfl ?_); refine be 7 #[.int .i64 0, .int .i64 0, .int .i64 0, .int .i64 0, .int .i64 0, .int .i64 0] 26 ?_; intro gb414 hg w33 hbox hb; have _ := ra (Kd.R_below (Kd.R_elderB (rq HO_413001) gb414 (Nat.le_of_eq hg.symm)) hb); have _ := bb (bk BK409) hb; have _ := bb (bk BK410) hb; have _ := bb (bk BK412) hb; have _ := bs hb; have _ := ra (hbox); have _ := bz (w0 := w) hg; have _ := bz (w0 := w) hg; have _ := bn hg (bk BK409); have _ := bm hg (bk BK409); have _ := bn hg (bk BK410); have _ := bm hg (bk BK410); have _ := bn hg (bk BK412); have _ := bm hg (bk BK412); clear HO_413001 BK409 BK410 BK412 HB; rename_i HO_413001 BK409 BK410 BK412 HB BK414 GW414 GE414 NB409_414 NB414_409 NB410_414 NB414_410 NB412_414 NB414_412; clear hb hbox hg; have hnb34 := NB414_409.out; have hnc34 := NB409_414.out; have hnb35 := NB414_410.out; have hnc35 := NB410_414.out; have hnb36 := NB414_412.out; have hnc36 := NB412_414.out; obtain ⟨hcz37_0, hcz37_1, hcz37_2, hcz37_3, hcz37_4, hcz37_5, hfz37_0, hfz37_1, hfz37_2, hfz37_3, hfz37_4, hfz37_5⟩ := zc6 BK414))
        go_roundg k1
        case measure => have := HK1.out; omega
        case rel => exact ⟨(wrap64 (x18_1 + 1)), (x413001_1), (u413001), rs, H', ⟨by have := HK1.out; omega⟩, ⟨by (with_reducible repeat (first | apply Kd.R_alloc | apply Kd.R_drewN | apply Kd.R_drew)); exact Kd.R_mono (rf (Kd.R_mono HO_413001.out (fun k_ hk => (⟨hk, hk.2⟩ : _ ∧ k_ ≠ gb414)))) (fun _ hk => trivial)⟩, ⟨bk BK409⟩, ⟨bk BK410⟩, ⟨bk BK412⟩, ⟨bq⟩⟩
      ·rw [if_neg c18] at H
       exact absurd H (by simp)
     ·rw [if_neg c17] at H
      exact absurd H (by simp)
    ·rw [if_neg c16] at H
     have c16b0 : decide (x18_1 < (l0_1.length : Int)) = false := decide_eq_false c16
     clear c16
     simp only [Option.some.injEq, Prod.mk.injEq] at H
     obtain ⟨rfl, rfl⟩ := H
     have hnb38 := NB412_409.out
     have hnc38 := NB409_412.out
     have hnb39 := NB412_410.out
     have hnc39 := NB410_412.out
     obtain ⟨hcz40_0, hcz40_1, hfz40_0, hfz40_1⟩ := zc2 BK412
     have hnb41 := NB410_409.out
     have hnc41 := NB409_410.out
     obtain ⟨hcz42_0, hcz42_1, hfz42_0, hfz42_1⟩ := zc2 BK410
     obtain ⟨Ao43, co43, eo43⟩ := Kd.R_slice HO_413001.out
     subst eo43
     go_wp2
     refine bodyPost_ret (results_cell_row rfl _ _ gb410 39 #[.string a0_0, .slice Ao43 x413001_1.length co43] (0, 0) _ rfl (bp BK410) Try.underlying39 rfl (by kernel_rfl)) rfl ?_
     exact ⟨_, re, by (with_reducible repeat (first | apply Kd.R_alloc | apply Kd.R_drewN | apply Kd.R_drew)); exact Kd.R_mono (rf (Kd.R_types HO_413001.out BK410.out (by decide))) (fun _ hk => trivial), bq⟩
 ·replace c4 := Bool.eq_false_iff.mpr c4
  subst c4
  have H1 : (some ((⟨#[]⟩ : ByteArray), ([] : List (S26)))) = some (r1, r2) := by rw [if_neg (show ¬ (false = true) by decide)] at H; exact H
  clear H
  have H := H1
  clear H1
  simp only [Option.some.injEq, Prod.mk.injEq] at H
  obtain ⟨rfl, rfl⟩ := H
  go_enter Try.func36, Try.ntmps36
  go_wp2_with (first | ((with_reducible refine gate_dst (N := 2) rfl ?_); refine be 2 #[.string a0_0, .slice A0_1 l0_1.length c0_1] 39 ?_; intro gb409 hg w44 hbox hb; have _ := bs hb; have _ := ra (hbox); have _ := bz (w0 := w) hg; have _ := bz (w0 := w) hg; clear HB; rename_i HB BK409 GW409 GE409; clear hb hbox hg) | ((with_reducible refine gate_dst (N := 4) rfl ?_); refine be 4 #[.string (⟨#[]⟩ : ByteArray), .slice none 0 0] 39 ?_; intro gb410 hg w45 hbox hb; have _ := bb (bk BK409) hb; have _ := bs hb; have _ := ra (hbox); have _ := bz (w0 := w) hg; have _ := bz (w0 := w) hg; have _ := bn hg (bk BK409); have _ := bm hg (bk BK409); clear BK409 HB; rename_i BK409 HB BK410 GW410 GE410 NB409_410 NB410_409; clear hb hbox hg; have hnb46 := NB409_410.out; have hnc46 := NB410_409.out; obtain ⟨hcz47_0, hcz47_1, hfz47_0, hfz47_1⟩ := zc2 BK409) | ((with_reducible refine gate_callee (f := 23) rfl ?_); refine gl (some 9) Try.func23 #[.agg #[.string a0_0, .slice A0_1 l0_1.length c0_1]] ?_; (with_reducible refine (impl_ProbeTubeOk.calls k a0_0 _ _ l0_1 false _ ?side1 ?side2 A3.out).mono ?_); (case side1 => exact sc HR0_1); (case side2 => exact HC0_1.out); rintro e w48 ⟨rfl, hb⟩; refine ⟨_, rfl, ?_⟩; have _ := bb (bk BK409) hb; have _ := bb (bk BK410) hb; have _ := bs hb; clear BK409 BK410 HB; rename_i BK409 BK410 HB; (try clear hb); (try clear hb2); (try clear hk); (try clear hi); obtain ⟨hcz49_0, hcz49_1, hfz49_0, hfz49_1⟩ := zc2 BK410))
  refine bodyPost_ret (results_cell_row rfl _ _ gb410 39 #[.string (⟨#[]⟩ : ByteArray), .slice none 0 0] (0, 0) _ rfl (bp BK410) Try.underlying39 rfl (by kernel_rfl)) rfl ?_
  exact ⟨_, re, by first | exact Kd.R_nil _ _ _ _ _ | exact Kd.N_nil _ _ _ _ _ | exact Kd.V_nil _ _ _ _ _ | exact Kd.Q_nil _ _ _ _ _ | exact Kd.S_nil _ _ _ _ _, bq⟩
end Go.Proofs.Ytfoapgcnjnogiaa.PA
