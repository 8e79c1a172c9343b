/- A contract of the function impl_ProbeSmaller. (Began as a print of the kit's tool.) -/
import Derived.Test.YtfoapgcnjnogiaaPAd
import Derived.Test.YtfoapgcnjnogiaaCx
import Derived.Test.YtfoapgcnjnogiaaC23
import Derived.Test.YtfoapgcnjnogiaaC57
namespace Go.Proofs.Ytfoapgcnjnogiaa.PA
open Go.RowKit Go.Proofs.YtfoapgcnjnogiaaW.PrintWords Go.Proofs.YtfoapgcnjnogiaaW.PrintLast Go.Proofs.YtfoapgcnjnogiaaW.PrintMore Go.Proofs.Ytfoapgcnjnogiaa.Z
attribute [local go_sem] max2_int min2_int max_two min_two max_three min_three max_four min_four
set_option linter.unusedVariables false
set_option linter.unusedSimpArgs false
set_option maxHeartbeats 8000000 in
set_option maxRecDepth 100000 in
theorem impl_ProbeSmaller.calls (k : Nat) (a0_0 : ByteArray) (A0_1 : Option Addr) (c0_1 : Nat) (l0_1 : List (S26)) (a1_0 : ByteArray) (A1_1 : Option Addr) (c1_1 : Nat) (l1_1 : List (S26)) (r : Bool) (w : World) (hr0_1 : Kd.C k26 w A0_1 l0_1.length l0_1) (hc0_1 : l0_1.length ≤ c0_1) (hr1_1 : Kd.C k26 w A1_1 l1_1.length l1_1) (hc1_1 : l1_1.length ≤ c1_1) (h : impl_ProbeSmaller.f k a0_0 l0_1 a1_0 l1_1 = some r) :
    Calls Try.prog 26 #[.agg #[.string a0_0, .slice A0_1 l0_1.length c0_1], .agg #[.string a1_0, .slice A1_1 l1_1.length c1_1]] w fun e w' => e = .returned (.bool r) ∧ Below w.heap.size w w' := by
  have hu39 := Try.underlying39
  have hu26 := Try.underlying26
  have HR0_1 := Aside0.mk hr0_1
  have HC0_1 := Aside0.mk hc0_1
  clear hr0_1 hc0_1
  have HR1_1 := Aside0.mk hr1_1
  have HC1_1 := Aside0.mk hc1_1
  clear hr1_1 hc1_1
  have HB := ra (Below.refl w.heap.size w)
  have H : ((impl_ProbeTubeOk.f k a0_0 l0_1).bind fun t241 => (if t241 = true then ((impl_ProbeTubeOk.f k a1_0 l1_1).bind fun t242 => (impl_ProbeSmaller.j0 k (!t242) a0_0 l0_1 a1_0 l1_1)) else (impl_ProbeSmaller.j0 k true a0_0 l0_1 a1_0 l1_1))) = some r := h
  clear h
  have HC3 := Aside0.mk H
  clear H
  go_enter Try.func26, Try.ntmps26
  go_upto_region 1 with (first | ((with_reducible refine gate_dst (N := 2) rfl ?_); refine be 2 #[.string a0_0, .slice A0_1 l0_1.length c0_1] 39 ?_; intro gb239 hg w4 hbox hb; have n0 := bs hb; have n1 := ra (hbox); have n2 := bz (w0 := w) hg; have n3 := bz (w0 := w) hg; clear HB; have HB := n0; have BK239 := n1; have GW239 := n2; have GE239 := n3; clear n0 n1 n2 n3; clear hb hbox hg) | ((with_reducible refine gate_dst (N := 3) rfl ?_); refine be 3 #[.string a1_0, .slice A1_1 l1_1.length c1_1] 39 ?_; intro gb240 hg w5 hbox hb; have n0 := bb (bk BK239) hb; have n1 := bs hb; have n2 := ra (hbox); have n3 := bz (w0 := w) hg; have n4 := bz (w0 := w) hg; have n5 := bn hg (bk BK239); have n6 := bm hg (bk BK239); clear BK239 HB; have BK239 := n0; have HB := n1; have BK240 := n2; have GW240 := n3; have GE240 := n4; have NB239_240 := n5; have NB240_239 := n6; clear n0 n1 n2 n3 n4 n5 n6; clear hb hbox hg))
  (try simp only [Act.put, List.setIfInBounds_toArray, List.set_cons_zero, List.set_cons_succ])
  go_cut [17] (fun v17 wc => ∃ (kq : Nat) (x17_2 : Bool), v17 = .bool x17_2 ∧ Aside0 (impl_ProbeSmaller.j0 kq x17_2 a0_0 l0_1 a1_0 l1_1 = some r) ∧ Aside0 (kq ≤ k) ∧ Aside0 (wc.heap[gb239]? = some (.cells #[.string a0_0, (.slice A0_1 l0_1.length c0_1)] 39 (0, 0))) ∧ Aside0 (wc.heap[gb240]? = some (.cells #[.string a1_0, (.slice A1_1 l1_1.length c1_1)] 39 (0, 0))) ∧ Aside0 (Below w.heap.size w wc))
  case first =>
    have H := HC3.out
    clear HC3
    obtain ⟨t241, A6, H⟩ := bo H
    by_cases c7 : t241 = true
    · subst c7
      replace H := it H rfl
      obtain ⟨t242, A8, H⟩ := bo H
      have H' := Aside0.mk H
      clear H
      have hnb9 := NB239_240.out
      have hnc9 := NB240_239.out
      obtain ⟨hcz10_0, hcz10_1, hfz10_0, hfz10_1⟩ := zc2 BK239
      go_wp2_with (first | ((with_reducible refine gate_callee (f := 23) rfl ?_); refine gl (some 11) Try.func23 #[.agg #[.string a0_0, .slice A0_1 l0_1.length c0_1]] ?_; (with_reducible refine (impl_ProbeTubeOk.calls k a0_0 _ _ l0_1 true _ ?side1 ?side2 A6.out).mono ?_); (case side1 => exact sc HR0_1); (case side2 => exact HC0_1.out); rintro e w11 ⟨rfl, hb⟩; refine ⟨_, rfl, ?_⟩; have n0 := bb (bk BK239) hb; have n1 := bb (bk BK240) hb; have n2 := bs hb; clear BK239 BK240 HB; have BK239 := n0; have BK240 := n1; have HB := n2; clear n0 n1 n2; (try clear hb); (try clear hb2); (try clear hk); (try clear hi); obtain ⟨hcz12_0, hcz12_1, hfz12_0, hfz12_1⟩ := zc2 BK240) | (go_at_call 23; (with_reducible refine (impl_ProbeTubeOk.calls k a1_0 _ _ l1_1 t242 _ ?side1 ?side2 A8.out).mono ?_); (case side1 => exact sc HR1_1); (case side2 => exact HC1_1.out); rintro e w13 ⟨rfl, hb⟩; have n0 := bb (bk BK239) hb; have n1 := bb (bk BK240) hb; have n2 := bs hb; clear BK239 BK240 HB; have BK239 := n0; have BK240 := n1; have HB := n2; clear n0 n1 n2; (try clear hb); (try clear hb2); (try clear hk); (try clear hi)))
      go_meet
      case rel => exact ⟨_, (!t242), rs, H', ⟨by first | omega | exact Nat.le_refl _⟩, ⟨bk BK239⟩, ⟨bk BK240⟩, ⟨bq⟩⟩
    · replace c7 := Bool.eq_false_iff.mpr c7
      subst c7
      have H1 : (impl_ProbeSmaller.j0 k true a0_0 l0_1 a1_0 l1_1) = some r := by rw [if_neg (show ¬ (false = true) by decide)] at H; exact H
      clear H
      have H := H1
      clear H1
      have H' := Aside0.mk H
      clear H
      have hnb14 := NB239_240.out
      have hnc14 := NB240_239.out
      obtain ⟨hcz15_0, hcz15_1, hfz15_0, hfz15_1⟩ := zc2 BK239
      go_wp2_with (first | ((with_reducible refine gate_callee (f := 23) rfl ?_); refine gl (some 11) Try.func23 #[.agg #[.string a0_0, .slice A0_1 l0_1.length c0_1]] ?_; (with_reducible refine (impl_ProbeTubeOk.calls k a0_0 _ _ l0_1 false _ ?side1 ?side2 A6.out).mono ?_); (case side1 => exact sc HR0_1); (case side2 => exact HC0_1.out); rintro e w16 ⟨rfl, hb⟩; refine ⟨_, rfl, ?_⟩; have n0 := bb (bk BK239) hb; have n1 := bb (bk BK240) hb; have n2 := bs hb; clear BK239 BK240 HB; have BK239 := n0; have BK240 := n1; have HB := n2; clear n0 n1 n2; (try clear hb); (try clear hb2); (try clear hk); (try clear hi)))
      go_meet
      case rel => exact ⟨_, (true), rs, H', ⟨by first | omega | exact Nat.le_refl _⟩, ⟨bk BK239⟩, ⟨bk BK240⟩, ⟨bq⟩⟩
  case rest =>
    clear HC3
    try clear c7
    try clear hcz10_0
    try clear hcz10_1
    try clear hcz12_0
    try clear hcz12_1
    try clear hcz15_0
    try clear hcz15_1
    try clear hfz10_0
    try clear hfz10_1
    try clear hfz12_0
    try clear hfz12_1
    try clear hfz15_0
    try clear hfz15_1
    obtain ⟨kq, x17_2, rfl, HA, HJ2, BK239, BK240, HB⟩ := hcut
    cases kq with
    | zero => exact absurd HA.out (by simp [impl_ProbeSmaller.j0])
    | succ kj2 =>
      have H := HA.out
      clear HA
      simp only [impl_ProbeSmaller.j0] at H
      by_cases c17 : x17_2 = true
      · subst c17
        replace H := it H rfl
        obtain rfl := Option.some.inj H
        go_wp2
        go_ret
        exact ⟨re, bq⟩
      · replace c17 := Bool.eq_false_iff.mpr c17
        subst c17
        have H1 : (impl_ProbeSmaller.l0 kj2 l0_1 (l0_1.length : Int) 0 a1_0 l1_1) = some r := by rw [if_neg (show ¬ (false = true) by decide)] at H; exact H
        clear H
        have H := H1
        clear H1
        have H' := Aside0.mk H
        clear H
        have hnb18 := NB239_240.out
        have hnc18 := NB240_239.out
        obtain ⟨hcz19_0, hcz19_1, hfz19_0, hfz19_1⟩ := zc2 BK239
        go_wp2
        go_loopg [21] kj2 (fun kq v21 w' => ∃ (x21_2 : Int), v21 = .int .i64 x21_2 ∧ Aside0 (impl_ProbeSmaller.l0 kq l0_1 (l0_1.length : Int) x21_2 a1_0 l1_1 = some r) ∧ Aside0 (kq ≤ kj2) ∧ Aside0 (w'.heap[gb239]? = some (.cells #[.string a0_0, (.slice A0_1 l0_1.length c0_1)] 39 (0, 0))) ∧ Aside0 (w'.heap[gb240]? = some (.cells #[.string a1_0, (.slice A1_1 l1_1.length c1_1)] 39 (0, 0))) ∧ Aside0 (Below w.heap.size w w'))
        case atStart => exact ⟨(0), rs, H', ⟨Nat.le_refl _⟩, ⟨bk BK239⟩, ⟨bk BK240⟩, ⟨bq⟩⟩
        case round =>
          clear H'
          try clear c7
          try clear c17
          try clear hcz10_0
          try clear hcz10_1
          try clear hcz12_0
          try clear hcz12_1
          try clear hcz15_0
          try clear hcz15_1
          try clear hcz19_0
          try clear hcz19_1
          try clear hfz10_0
          try clear hfz10_1
          try clear hfz12_0
          try clear hfz12_1
          try clear hfz15_0
          try clear hfz15_1
          try clear hfz19_0
          try clear hfz19_1
          obtain ⟨x21_2, rfl, HA, HK2, BK239, BK240, HB⟩ := hrel
          cases gk with
          | zero => exact absurd HA.out (by simp [impl_ProbeSmaller.l0])
          | succ k2 =>
            have H := HA.out
            clear HA
            simp only [impl_ProbeSmaller.l0] at H
            by_cases c20 : x21_2 < (l0_1.length : Int)
            · rw [if_pos c20] at H
              have c20b0 : decide (x21_2 < (l0_1.length : Int)) = true := decide_eq_true c20
              clear c20
              by_cases c21 : 0 ≤ x21_2
              · rw [if_pos c21] at H
                have c21b0 : decide (0 ≤ x21_2) = true := decide_eq_true c21
                clear c21
                by_cases c22 : x21_2 < (l0_1.length : Int)
                · rw [if_pos c22] at H
                  have c22b0 : decide (x21_2 < (l0_1.length : Int)) = true := decide_eq_true c22
                  clear c22
                  have H' := Aside0.mk H
                  clear H
                  have p243 : 0 ≤ (x21_2 : Int) := od
                  have q243 : x21_2 < (l0_1.length : Int) := od
                  obtain ⟨ad243, e243, hx243_0, hx243_1, hx243_2, hx243_3, hx243_4, hx243_5⟩ := at_T26 HR0_1.out x21_2 p243 q243
                  cases e243
                  replace hx243_0 := hc HB hx243_0
                  replace hx243_1 := hc HB hx243_1
                  replace hx243_2 := hc HB hx243_2
                  replace hx243_3 := hc HB hx243_3
                  replace hx243_4 := hc HB hx243_4
                  replace hx243_5 := hc HB hx243_5
                  replace p243 := eq_true p243
                  replace q243 := eq_true q243
                  go_wp2_with (first | ((with_reducible refine gate_dst (N := 6) rfl ?_); refine be 6 #[.int .i64 0, .int .i64 0, .int .i64 0, .int .i64 0, .int .i64 0, .int .i64 0] 26 ?_; intro gb244 hg w23 hbox hb; have n0 := bb (bk BK239) hb; have n1 := bb (bk BK240) hb; have n2 := bs hb; have n3 := ra (hbox); have n4 := bz (w0 := w) hg; have n5 := bz (w0 := w) hg; have n6 := bn hg (bk BK239); have n7 := bm hg (bk BK239); have n8_ := bn hg (bk BK240); have n9_ := bm hg (bk BK240); clear BK239 BK240 HB; have BK239 := n0; have BK240 := n1; have HB := n2; have BK244 := n3; have GW244 := n4; have GE244 := n5; have NB239_244 := n6; have NB244_239 := n7; have NB240_244 := n8_; have NB244_240 := n9_; clear n0 n1 n2 n3 n4 n5 n6 n7 n8_ n9_; clear hb hbox hg; have hnb24 := NB244_239.out; have hnc24 := NB239_244.out; have hnb25 := NB244_240.out; have hnc25 := NB240_244.out; obtain ⟨hcz26_0, hcz26_1, hcz26_2, hcz26_3, hcz26_4, hcz26_5, hfz26_0, hfz26_1, hfz26_2, hfz26_3, hfz26_4, hfz26_5⟩ := zc6 BK244; have hnb27 := NB240_239.out; have hnc27 := NB239_240.out; obtain ⟨hcz28_0, hcz28_1, hfz28_0, hfz28_1⟩ := zc2 BK240))
                  go_loopg [7, 28] k2 (fun kq v7 v28 w' => ∃ (x7_3 : Bool) (x28_3 : Int), v7 = .bool x7_3 ∧ v28 = .int .i64 x28_3 ∧ Aside0 (impl_ProbeSmaller.l1 kq x7_3 l0_1 (l0_1.length : Int) x21_2 l1_1 (l1_1.length : Int) x28_3 a1_0 l1_1 ((rd_T26 l0_1 x21_2).f0) ((rd_T26 l0_1 x21_2).f1) ((rd_T26 l0_1 x21_2).f2) ((rd_T26 l0_1 x21_2).f3) ((rd_T26 l0_1 x21_2).f4) ((rd_T26 l0_1 x21_2).f5) = some r) ∧ Aside0 (kq ≤ k2) ∧ Aside0 (w'.heap[gb239]? = some (.cells #[.string a0_0, (.slice (some ad243) l0_1.length c0_1)] 39 (0, 0))) ∧ Aside0 (w'.heap[gb240]? = some (.cells #[.string a1_0, (.slice A1_1 l1_1.length c1_1)] 39 (0, 0))) ∧ Aside0 (w'.heap[gb244]? = some (.cells #[.int .i64 ((rd_T26 l0_1 x21_2).f0), .int .i64 ((rd_T26 l0_1 x21_2).f1), .int .i64 ((rd_T26 l0_1 x21_2).f2), .int .i64 ((rd_T26 l0_1 x21_2).f3), .int .i64 ((rd_T26 l0_1 x21_2).f4), .int .i64 ((rd_T26 l0_1 x21_2).f5)] 26 (0, 0))) ∧ Aside0 (Below w.heap.size w w'))
                  case atStart => exact ⟨(false), (0), rs, rs, H', ⟨Nat.le_refl _⟩, ⟨bk BK239⟩, ⟨bk BK240⟩, ⟨bp BK244⟩, ⟨bq⟩⟩
                  case round =>
                    clear H'
                    try clear c7
                    try clear c17
                    try clear c20
                    try clear c20b0
                    try clear c21
                    try clear c21b0
                    try clear c22
                    try clear c22b0
                    try clear hcz10_0
                    try clear hcz10_1
                    try clear hcz12_0
                    try clear hcz12_1
                    try clear hcz15_0
                    try clear hcz15_1
                    try clear hcz19_0
                    try clear hcz19_1
                    try clear hcz26_0
                    try clear hcz26_1
                    try clear hcz26_2
                    try clear hcz26_3
                    try clear hcz26_4
                    try clear hcz26_5
                    try clear hcz28_0
                    try clear hcz28_1
                    try clear hfz10_0
                    try clear hfz10_1
                    try clear hfz12_0
                    try clear hfz12_1
                    try clear hfz15_0
                    try clear hfz15_1
                    try clear hfz19_0
                    try clear hfz19_1
                    try clear hfz26_0
                    try clear hfz26_1
                    try clear hfz26_2
                    try clear hfz26_3
                    try clear hfz26_4
                    try clear hfz26_5
                    try clear hfz28_0
                    try clear hfz28_1
                    try clear hx243_0
                    try clear hx243_1
                    try clear hx243_2
                    try clear hx243_3
                    try clear hx243_4
                    try clear hx243_5
                    try clear p243
                    try clear q243
                    obtain ⟨x7_3, x28_3, rfl, rfl, HA, HK3, BK239, BK240, BK244, HB⟩ := hrel
                    cases gk with
                    | zero => exact absurd HA.out (by simp [impl_ProbeSmaller.l1])
                    | succ k3 =>
                      have H := HA.out
                      clear HA
                      simp only [impl_ProbeSmaller.l1] at H
                      by_cases c29 : x28_3 < (l1_1.length : Int)
                      · rw [if_pos c29] at H
                        have c29b0 : decide (x28_3 < (l1_1.length : Int)) = true := decide_eq_true c29
                        clear c29
                        by_cases c30 : 0 ≤ x28_3
                        · rw [if_pos c30] at H
                          have c30b0 : decide (0 ≤ x28_3) = true := decide_eq_true c30
                          clear c30
                          by_cases c31 : x28_3 < (l1_1.length : Int)
                          · rw [if_pos c31] at H
                            have c31b0 : decide (x28_3 < (l1_1.length : Int)) = true := decide_eq_true c31
                            clear c31
                            by_cases c32 : x7_3 = true
                            · subst c32
                              replace H := it H rfl
                              have H' := Aside0.mk H
                              clear H
                              have p245 : 0 ≤ (x28_3 : Int) := od
                              have q245 : x28_3 < (l1_1.length : Int) := od
                              obtain ⟨ad245, e245, hx245_0, hx245_1, hx245_2, hx245_3, hx245_4, hx245_5⟩ := at_T26 HR1_1.out x28_3 p245 q245
                              cases e245
                              replace hx245_0 := hc HB hx245_0
                              replace hx245_1 := hc HB hx245_1
                              replace hx245_2 := hc HB hx245_2
                              replace hx245_3 := hc HB hx245_3
                              replace hx245_4 := hc HB hx245_4
                              replace hx245_5 := hc HB hx245_5
                              replace p245 := eq_true p245
                              replace q245 := eq_true q245
                              go_wp2_with (first | ((with_reducible refine gate_dst (N := 9) rfl ?_); refine be 9 #[.int .i64 0, .int .i64 0, .int .i64 0, .int .i64 0, .int .i64 0, .int .i64 0] 26 ?_; intro gb246 hg w33 hbox hb; have n0 := bb (bk BK239) hb; have n1 := bb (bk BK240) hb; have n2 := bb (bk BK244) hb; have n3 := bs hb; have n4 := ra (hbox); have n5 := bz (w0 := w) hg; have n6 := bz (w0 := w) hg; have n7 := bn hg (bk BK239); have n8_ := bm hg (bk BK239); have n9_ := bn hg (bk BK240); have n10_ := bm hg (bk BK240); have n11_ := bn hg (bk BK244); have n12_ := bm hg (bk BK244); clear BK239 BK240 BK244 HB; have BK239 := n0; have BK240 := n1; have BK244 := n2; have HB := n3; have BK246 := n4; have GW246 := n5; have GE246 := n6; have NB239_246 := n7; have NB246_239 := n8_; have NB240_246 := n9_; have NB246_240 := n10_; have NB244_246 := n11_; have NB246_244 := n12_; clear n0 n1 n2 n3 n4 n5 n6 n7 n8_ n9_ n10_ n11_ n12_; clear hb hbox hg; have hnb34 := NB246_239.out; have hnc34 := NB239_246.out; have hnb35 := NB246_240.out; have hnc35 := NB240_246.out; have hnb36 := NB246_244.out; have hnc36 := NB244_246.out; obtain ⟨hcz37_0, hcz37_1, hcz37_2, hcz37_3, hcz37_4, hcz37_5, hfz37_0, hfz37_1, hfz37_2, hfz37_3, hfz37_4, hfz37_5⟩ := zc6 BK246))
                              go_roundg k3
                              case measure => have := HJ2.out; have := HK2.out; have := HK3.out; omega
                              case rel => exact ⟨(true), (wrap64 (x28_3 + 1)), rs, rs, H', ⟨by have := HJ2.out; have := HK2.out; have := HK3.out; omega⟩, ⟨bk BK239⟩, ⟨bk BK240⟩, ⟨bk BK244⟩, ⟨bq⟩⟩
                            · replace c32 := Bool.eq_false_iff.mpr c32
                              subst c32
                              have H1 : ((impl_within.f ((rd_T26 l0_1 x21_2).f0) ((rd_T26 l0_1 x21_2).f1) ((rd_T26 l0_1 x21_2).f2) ((rd_T26 l0_1 x21_2).f3) ((rd_T26 l0_1 x21_2).f4) ((rd_T26 l0_1 x21_2).f5) ((rd_T26 l1_1 x28_3).f0) ((rd_T26 l1_1 x28_3).f1) ((rd_T26 l1_1 x28_3).f2) ((rd_T26 l1_1 x28_3).f3) ((rd_T26 l1_1 x28_3).f4) ((rd_T26 l1_1 x28_3).f5)).bind fun t247 => (impl_ProbeSmaller.l1 k3 t247 l0_1 (l0_1.length : Int) x21_2 l1_1 (l1_1.length : Int) (wrap64 (x28_3 + 1)) a1_0 l1_1 ((rd_T26 l0_1 x21_2).f0) ((rd_T26 l0_1 x21_2).f1) ((rd_T26 l0_1 x21_2).f2) ((rd_T26 l0_1 x21_2).f3) ((rd_T26 l0_1 x21_2).f4) ((rd_T26 l0_1 x21_2).f5))) = some r := by rw [if_neg (show ¬ (false = true) by decide)] at H; exact H
                              clear H
                              have H := H1
                              clear H1
                              obtain ⟨t247, A38, H⟩ := bo H
                              have H' := Aside0.mk H
                              clear H
                              have p245 : 0 ≤ (x28_3 : Int) := od
                              have q245 : x28_3 < (l1_1.length : Int) := od
                              obtain ⟨ad245, e245, hx245_0, hx245_1, hx245_2, hx245_3, hx245_4, hx245_5⟩ := at_T26 HR1_1.out x28_3 p245 q245
                              cases e245
                              replace hx245_0 := hc HB hx245_0
                              replace hx245_1 := hc HB hx245_1
                              replace hx245_2 := hc HB hx245_2
                              replace hx245_3 := hc HB hx245_3
                              replace hx245_4 := hc HB hx245_4
                              replace hx245_5 := hc HB hx245_5
                              replace p245 := eq_true p245
                              replace q245 := eq_true q245
                              go_wp2_with (first | ((with_reducible refine gate_dst (N := 9) rfl ?_); refine be 9 #[.int .i64 0, .int .i64 0, .int .i64 0, .int .i64 0, .int .i64 0, .int .i64 0] 26 ?_; intro gb246 hg w39 hbox hb; have n0 := bb (bk BK239) hb; have n1 := bb (bk BK240) hb; have n2 := bb (bk BK244) hb; have n3 := bs hb; have n4 := ra (hbox); have n5 := bz (w0 := w) hg; have n6 := bz (w0 := w) hg; have n7 := bn hg (bk BK239); have n8_ := bm hg (bk BK239); have n9_ := bn hg (bk BK240); have n10_ := bm hg (bk BK240); have n11_ := bn hg (bk BK244); have n12_ := bm hg (bk BK244); clear BK239 BK240 BK244 HB; have BK239 := n0; have BK240 := n1; have BK244 := n2; have HB := n3; have BK246 := n4; have GW246 := n5; have GE246 := n6; have NB239_246 := n7; have NB246_239 := n8_; have NB240_246 := n9_; have NB246_240 := n10_; have NB244_246 := n11_; have NB246_244 := n12_; clear n0 n1 n2 n3 n4 n5 n6 n7 n8_ n9_ n10_ n11_ n12_; clear hb hbox hg; have hnb40 := NB246_239.out; have hnc40 := NB239_246.out; have hnb41 := NB246_240.out; have hnc41 := NB240_246.out; have hnb42 := NB246_244.out; have hnc42 := NB244_246.out; obtain ⟨hcz43_0, hcz43_1, hcz43_2, hcz43_3, hcz43_4, hcz43_5, hfz43_0, hfz43_1, hfz43_2, hfz43_3, hfz43_4, hfz43_5⟩ := zc6 BK246; have hnb44 := NB244_239.out; have hnc44 := NB239_244.out; have hnb45 := NB244_240.out; have hnc45 := NB240_244.out; obtain ⟨hcz46_0, hcz46_1, hcz46_2, hcz46_3, hcz46_4, hcz46_5, hfz46_0, hfz46_1, hfz46_2, hfz46_3, hfz46_4, hfz46_5⟩ := zc6 BK244) | (go_at_call 57; (with_reducible refine (impl_within.calls ((rd_T26 l0_1 x21_2).f0) ((rd_T26 l0_1 x21_2).f1) ((rd_T26 l0_1 x21_2).f2) ((rd_T26 l0_1 x21_2).f3) ((rd_T26 l0_1 x21_2).f4) ((rd_T26 l0_1 x21_2).f5) ((rd_T26 l1_1 x28_3).f0) ((rd_T26 l1_1 x28_3).f1) ((rd_T26 l1_1 x28_3).f2) ((rd_T26 l1_1 x28_3).f3) ((rd_T26 l1_1 x28_3).f4) ((rd_T26 l1_1 x28_3).f5) t247 _ A38.out).mono ?_); rintro e w47 ⟨rfl, hb⟩; have n0 := bb (bk BK239) hb; have n1 := bb (bk BK240) hb; have n2 := bb (bk BK244) hb; have n3 := bb (o := .cells #[.int .i64 ((rd_T26 l1_1 x28_3).f0), .int .i64 ((rd_T26 l1_1 x28_3).f1), .int .i64 ((rd_T26 l1_1 x28_3).f2), .int .i64 ((rd_T26 l1_1 x28_3).f3), .int .i64 ((rd_T26 l1_1 x28_3).f4), .int .i64 ((rd_T26 l1_1 x28_3).f5)] 26 (0, 0)) (bp BK246) hb; have n4 := bs hb; clear BK239 BK240 BK244 BK246 HB; have BK239 := n0; have BK240 := n1; have BK244 := n2; have BK246 := n3; have HB := n4; clear n0 n1 n2 n3 n4; (try clear hb); (try clear hb2); (try clear hk); (try clear hi)))
                              go_roundg k3
                              case measure => have := HJ2.out; have := HK2.out; have := HK3.out; omega
                              case rel => exact ⟨(t247), (wrap64 (x28_3 + 1)), rs, rs, H', ⟨by have := HJ2.out; have := HK2.out; have := HK3.out; omega⟩, ⟨bk BK239⟩, ⟨bk BK240⟩, ⟨bk BK244⟩, ⟨bq⟩⟩
                          · rw [if_neg c31] at H
                            exact absurd H (by simp)
                        · rw [if_neg c30] at H
                          exact absurd H (by simp)
                      · rw [if_neg c29] at H
                        have c29b0 : decide (x28_3 < (l1_1.length : Int)) = false := decide_eq_false c29
                        clear c29
                        by_cases c48 : x7_3 = true
                        · subst c48
                          replace H := it H rfl
                          have H' := Aside0.mk H
                          clear H
                          go_wp2
                          go_roundg k3
                          case measure => have := HJ2.out; have := HK2.out; have := HK3.out; omega
                          case rel => exact ⟨(wrap64 (x21_2 + 1)), rs, H', ⟨by have := HJ2.out; have := HK2.out; have := HK3.out; omega⟩, ⟨bk BK239⟩, ⟨bk BK240⟩, ⟨bq⟩⟩
                        · replace c48 := Bool.eq_false_iff.mpr c48
                          subst c48
                          have H1 : (some false) = some r := by rw [if_neg (show ¬ (false = true) by decide)] at H; exact H
                          clear H
                          have H := H1
                          clear H1
                          obtain rfl := Option.some.inj H
                          go_wp2
                          go_ret
                          exact ⟨re, bq⟩
                · rw [if_neg c22] at H
                  exact absurd H (by simp)
              · rw [if_neg c21] at H
                exact absurd H (by simp)
            · rw [if_neg c20] at H
              have c20b0 : decide (x21_2 < (l0_1.length : Int)) = false := decide_eq_false c20
              clear c20
              obtain rfl := Option.some.inj H
              go_wp2
              go_ret
              exact ⟨re, bq⟩
end Go.Proofs.Ytfoapgcnjnogiaa.PA
