/- A contract of the function spec_ProbeSmaller. (Began as a print of the kit's tool.) -/
import Derived.Test.YtfoapgcnjnogiaaPAd
import Derived.Test.YtfoapgcnjnogiaaCx
import Derived.Test.YtfoapgcnjnogiaaC21
import Derived.Test.YtfoapgcnjnogiaaC56
namespace Go.Proofs.Ytfoapgcnjnogiaa.PA
open Go.RowKit Go.Proofs.YtfoapgcnjnogiaaW.PrintWords Go.Proofs.YtfoapgcnjnogiaaW.PrintLast Go.Proofs.YtfoapgcnjnogiaaW.PrintMore Go.Proofs.Ytfoapgcnjnogiaa.Z
attribute [local go_sem] max2_int min2_int max_two min_two max_three min_three max_four min_four
set_option linter.unusedVariables false
set_option linter.unusedSimpArgs false
def spec_ProbeSmaller.T10 : Bool × List (List Nat × List Nat) := (true, [([], []), ([0], [0]), ([1], [1]), ([2, 1], [1, 2]), ([1], [1]), ([3, 4, 1], [1, 3, 4]), ([5, 1], [1, 5]), ([1], [1]), ([7, 1], [1, 7]), ([1], [1]), ([8, 9, 1], [1, 8, 9]), ([10, 1], [1, 10]), ([6, 11, 1, 1], [1, 6, 11]), ([1, 12], [1, 12]), ([13, 12, 0, 1, 2, 3, 4, 5, 6, 7, 8, 9, 10, 11, 12, 13], [0, 13])])
def spec_ProbeSmaller.B10 : List Nat := [0, 1, 3, 7, 3, 31, 63, 3, 131, 3, 899, 1923, 4095, 8191, 16383]
theorem spec_ProbeSmaller.tab10 : rtab .any (opsOf Try.f25 10) = spec_ProbeSmaller.T10 := by kernel_rfl
theorem spec_ProbeSmaller.bits10 : waitsOk spec_ProbeSmaller.T10.2 spec_ProbeSmaller.B10 = true := by kernel_rfl
set_option maxHeartbeats 8000000 in
set_option maxRecDepth 100000 in
theorem spec_ProbeSmaller.calls (k : Nat) (a0_0 : ByteArray) (A0_1 : Option Addr) (c0_1 : Nat) (l0_1 : List (S26)) (a1_0 : ByteArray) (A1_1 : Option Addr) (c1_1 : Nat) (l1_1 : List (S26)) (r : Bool) (w : World) (hr0_1 : Kd.C k26 w A0_1 l0_1.length l0_1) (hc0_1 : l0_1.length ≤ c0_1) (hr1_1 : Kd.C k26 w A1_1 l1_1.length l1_1) (hc1_1 : l1_1.length ≤ c1_1) (h : spec_ProbeSmaller.f k a0_0 l0_1 a1_0 l1_1 = some r) :
    Calls Try.prog 25 #[.agg #[.string a0_0, .slice A0_1 l0_1.length c0_1], .agg #[.string a1_0, .slice A1_1 l1_1.length c1_1]] w fun e w' => e = .returned (.bool r) ∧ Below w.heap.size w w' := by
  have hu39 := Try.underlying39
  have hu26 := Try.underlying26
  have HR0_1 := Aside0.mk hr0_1
  have HC0_1 := Aside0.mk hc0_1
  clear hr0_1 hc0_1
  have HR1_1 := Aside0.mk hr1_1
  have HC1_1 := Aside0.mk hc1_1
  clear hr1_1 hc1_1
  have HB := ra (Below.refl w.heap.size w)
  have H : ((spec_ProbeTubeOk.f k a0_0 l0_1).bind fun t232 => (if t232 = true then ((spec_ProbeTubeOk.f k a1_0 l1_1).bind fun t233 => (spec_ProbeSmaller.j0 k (!t233) a0_0 l0_1 a1_0 l1_1)) else (spec_ProbeSmaller.j0 k true a0_0 l0_1 a1_0 l1_1))) = some r := h
  clear h
  have HC3 := Aside0.mk H
  clear H
  go_enter Try.func25, Try.ntmps25
  go_upto_region 1 with (first | ((with_reducible refine gate_dst (N := 2) rfl ?_); refine be 2 #[.string a0_0, .slice A0_1 l0_1.length c0_1] 39 ?_; intro gb230 hg w4 hbox hb; have n0 := bs hb; have n1 := ra (hbox); have n2 := bz (w0 := w) hg; have n3 := bz (w0 := w) hg; clear HB; have HB := n0; have BK230 := n1; have GW230 := n2; have GE230 := n3; clear n0 n1 n2 n3; clear hb hbox hg) | ((with_reducible refine gate_dst (N := 3) rfl ?_); refine be 3 #[.string a1_0, .slice A1_1 l1_1.length c1_1] 39 ?_; intro gb231 hg w5 hbox hb; have n0 := bb (bk BK230) hb; have n1 := bs hb; have n2 := ra (hbox); have n3 := bz (w0 := w) hg; have n4 := bz (w0 := w) hg; have n5 := bn hg (bk BK230); have n6 := bm hg (bk BK230); clear BK230 HB; have BK230 := n0; have HB := n1; have BK231 := n2; have GW231 := n3; have GE231 := n4; have NB230_231 := n5; have NB231_230 := n6; clear n0 n1 n2 n3 n4 n5 n6; clear hb hbox hg))
  (try simp only [Act.put, List.setIfInBounds_toArray, List.set_cons_zero, List.set_cons_succ])
  go_cut [15] (fun v15 wc => ∃ (kq : Nat) (x15_2 : Bool), v15 = .bool x15_2 ∧ Aside0 (spec_ProbeSmaller.j0 kq x15_2 a0_0 l0_1 a1_0 l1_1 = some r) ∧ Aside0 (kq ≤ k) ∧ Aside0 (wc.heap[gb230]? = some (.cells #[.string a0_0, (.slice A0_1 l0_1.length c0_1)] 39 (0, 0))) ∧ Aside0 (wc.heap[gb231]? = some (.cells #[.string a1_0, (.slice A1_1 l1_1.length c1_1)] 39 (0, 0))) ∧ Aside0 (Below w.heap.size w wc))
  case first =>
    have H := HC3.out
    clear HC3
    obtain ⟨t232, A6, H⟩ := bo H
    by_cases c7 : t232 = true
    · subst c7
      replace H := it H rfl
      obtain ⟨t233, A8, H⟩ := bo H
      have H' := Aside0.mk H
      clear H
      have hnb9 := NB230_231.out
      have hnc9 := NB231_230.out
      obtain ⟨hcz10_0, hcz10_1, hfz10_0, hfz10_1⟩ := zc2 BK230
      go_wp2_with (first | ((with_reducible refine gate_callee (f := 21) rfl ?_); refine gl (some 9) Try.func21 #[.agg #[.string a0_0, .slice A0_1 l0_1.length c0_1]] ?_; (with_reducible refine (spec_ProbeTubeOk.calls k a0_0 _ _ l0_1 true _ ?side1 ?side2 A6.out).mono ?_); (case side1 => exact sc HR0_1); (case side2 => exact HC0_1.out); rintro e w11 ⟨rfl, hb⟩; refine ⟨_, rfl, ?_⟩; have n0 := bb (bk BK230) hb; have n1 := bb (bk BK231) hb; have n2 := bs hb; clear BK230 BK231 HB; have BK230 := n0; have BK231 := n1; have HB := n2; clear n0 n1 n2; (try clear hb); (try clear hb2); (try clear hk); (try clear hi); obtain ⟨hcz12_0, hcz12_1, hfz12_0, hfz12_1⟩ := zc2 BK231) | (go_at_call 21; (with_reducible refine (spec_ProbeTubeOk.calls k a1_0 _ _ l1_1 t233 _ ?side1 ?side2 A8.out).mono ?_); (case side1 => exact sc HR1_1); (case side2 => exact HC1_1.out); rintro e w13 ⟨rfl, hb⟩; have n0 := bb (bk BK230) hb; have n1 := bb (bk BK231) hb; have n2 := bs hb; clear BK230 BK231 HB; have BK230 := n0; have BK231 := n1; have HB := n2; clear n0 n1 n2; (try clear hb); (try clear hb2); (try clear hk); (try clear hi)))
      go_meet
      case rel => exact ⟨_, (!t233), rs, H', ⟨by first | omega | exact Nat.le_refl _⟩, ⟨bk BK230⟩, ⟨bk BK231⟩, ⟨bq⟩⟩
    · replace c7 := Bool.eq_false_iff.mpr c7
      subst c7
      have H1 : (spec_ProbeSmaller.j0 k true a0_0 l0_1 a1_0 l1_1) = some r := by rw [if_neg (show ¬ (false = true) by decide)] at H; exact H
      clear H
      have H := H1
      clear H1
      have H' := Aside0.mk H
      clear H
      have hnb14 := NB230_231.out
      have hnc14 := NB231_230.out
      obtain ⟨hcz15_0, hcz15_1, hfz15_0, hfz15_1⟩ := zc2 BK230
      go_wp2_with (first | ((with_reducible refine gate_callee (f := 21) rfl ?_); refine gl (some 9) Try.func21 #[.agg #[.string a0_0, .slice A0_1 l0_1.length c0_1]] ?_; (with_reducible refine (spec_ProbeTubeOk.calls k a0_0 _ _ l0_1 false _ ?side1 ?side2 A6.out).mono ?_); (case side1 => exact sc HR0_1); (case side2 => exact HC0_1.out); rintro e w16 ⟨rfl, hb⟩; refine ⟨_, rfl, ?_⟩; have n0 := bb (bk BK230) hb; have n1 := bb (bk BK231) hb; have n2 := bs hb; clear BK230 BK231 HB; have BK230 := n0; have BK231 := n1; have HB := n2; clear n0 n1 n2; (try clear hb); (try clear hb2); (try clear hk); (try clear hi)))
      go_meet
      case rel => exact ⟨_, (true), rs, H', ⟨by first | omega | exact Nat.le_refl _⟩, ⟨bk BK230⟩, ⟨bk BK231⟩, ⟨bq⟩⟩
  case rest =>
    clear HC3
    try clear c7
    try clear hcz10_0
    try clear hcz10_1
    try clear hcz12_0
    try clear hcz12_1
    try clear hcz15_0
    try clear hcz15_1
    try clear hfz10_0
    try clear hfz10_1
    try clear hfz12_0
    try clear hfz12_1
    try clear hfz15_0
    try clear hfz15_1
    obtain ⟨kq, x15_2, rfl, HA, HJ2, BK230, BK231, HB⟩ := hcut
    cases kq with
    | zero => exact absurd HA.out (by simp [spec_ProbeSmaller.j0])
    | succ kj2 =>
      have H := HA.out
      clear HA
      simp only [spec_ProbeSmaller.j0] at H
      by_cases c17 : x15_2 = true
      · subst c17
        replace H := it H rfl
        obtain rfl := Option.some.inj H
        go_wp2
        go_ret
        exact ⟨re, bq⟩
      · replace c17 := Bool.eq_false_iff.mpr c17
        subst c17
        have H1 : (spec_ProbeSmaller.l0 kj2 0 a0_0 l0_1 a1_0 l1_1) = some r := by rw [if_neg (show ¬ (false = true) by decide)] at H; exact H
        clear H
        have H := H1
        clear H1
        have H' := Aside0.mk H
        clear H
        go_wp2
        go_loopg [5] kj2 (fun kq v5 w' => ∃ (x5_2 : Int), v5 = .int .i64 x5_2 ∧ Aside0 (spec_ProbeSmaller.l0 kq x5_2 a0_0 l0_1 a1_0 l1_1 = some r) ∧ Aside0 (kq ≤ kj2) ∧ Aside0 (w'.heap[gb230]? = some (.cells #[.string a0_0, (.slice A0_1 l0_1.length c0_1)] 39 (0, 0))) ∧ Aside0 (w'.heap[gb231]? = some (.cells #[.string a1_0, (.slice A1_1 l1_1.length c1_1)] 39 (0, 0))) ∧ Aside0 (Below w.heap.size w w'))
        case atStart => exact ⟨(0), rs, H', ⟨Nat.le_refl _⟩, ⟨bk BK230⟩, ⟨bk BK231⟩, ⟨bq⟩⟩
        case round =>
          clear H'
          try clear c7
          try clear c17
          try clear hcz10_0
          try clear hcz10_1
          try clear hcz12_0
          try clear hcz12_1
          try clear hcz15_0
          try clear hcz15_1
          try clear hfz10_0
          try clear hfz10_1
          try clear hfz12_0
          try clear hfz12_1
          try clear hfz15_0
          try clear hfz15_1
          obtain ⟨x5_2, rfl, HA, HK2, BK230, BK231, HB⟩ := hrel
          cases gk with
          | zero => exact absurd HA.out (by simp [spec_ProbeSmaller.l0])
          | succ k2 =>
            have H := HA.out
            clear HA
            simp only [spec_ProbeSmaller.l0] at H
            by_cases c18 : x5_2 < (l0_1.length : Int)
            · rw [if_pos c18] at H
              have c18b0 : decide (x5_2 < (l0_1.length : Int)) = true := decide_eq_true c18
              clear c18
              have H' := Aside0.mk H
              clear H
              have hnb19 := NB230_231.out
              have hnc19 := NB231_230.out
              obtain ⟨hcz20_0, hcz20_1, hfz20_0, hfz20_1⟩ := zc2 BK230
              go_wp2
              go_loopg [6, 7] k2 (fun kq v6 v7 w' => ∃ (x6_3 : Bool) (x7_3 : Int), v6 = .bool x6_3 ∧ v7 = .int .i64 x7_3 ∧ Aside0 (spec_ProbeSmaller.l1 kq x5_2 x6_3 x7_3 a0_0 l0_1 a1_0 l1_1 = some r) ∧ Aside0 (kq ≤ k2) ∧ Aside0 (w'.heap[gb230]? = some (.cells #[.string a0_0, (.slice A0_1 l0_1.length c0_1)] 39 (0, 0))) ∧ Aside0 (w'.heap[gb231]? = some (.cells #[.string a1_0, (.slice A1_1 l1_1.length c1_1)] 39 (0, 0))) ∧ Aside0 (Below w.heap.size w w'))
              case atStart => exact ⟨(false), (0), rs, rs, H', ⟨Nat.le_refl _⟩, ⟨bk BK230⟩, ⟨bk BK231⟩, ⟨bq⟩⟩
              case round =>
                clear H'
                try clear c7
                try clear c17
                try clear c18
                try clear c18b0
                try clear hcz10_0
                try clear hcz10_1
                try clear hcz12_0
                try clear hcz12_1
                try clear hcz15_0
                try clear hcz15_1
                try clear hcz20_0
                try clear hcz20_1
                try clear hfz10_0
                try clear hfz10_1
                try clear hfz12_0
                try clear hfz12_1
                try clear hfz15_0
                try clear hfz15_1
                try clear hfz20_0
                try clear hfz20_1
                obtain ⟨x6_3, x7_3, rfl, rfl, HA, HK3, BK230, BK231, HB⟩ := hrel
                cases gk with
                | zero => exact absurd HA.out (by simp [spec_ProbeSmaller.l1])
                | succ k3 =>
                  have H := HA.out
                  clear HA
                  simp only [spec_ProbeSmaller.l1] at H
                  by_cases c21 : x7_3 < (l1_1.length : Int)
                  · rw [if_pos c21] at H
                    have c21b0 : decide (x7_3 < (l1_1.length : Int)) = true := decide_eq_true c21
                    clear c21
                    by_cases c22 : x6_3 = true
                    · subst c22
                      replace H := it H rfl
                      have H' := Aside0.mk H
                      clear H
                      have hnb23 := NB231_230.out
                      have hnc23 := NB230_231.out
                      obtain ⟨hcz24_0, hcz24_1, hfz24_0, hfz24_1⟩ := zc2 BK231
                      try go_wp2
                      have n0 := ra (blk_drew BK230.out)
                      have n1 := ra (blk_drew BK231.out)
                      have n2 := ra (below_drew1 HB.out)
                      clear BK230 BK231 HB
                      have BK230 := n0
                      have BK231 := n1
                      have HB := n2
                      clear n0 n1 n2
                      refine start_ (n := 15) (S := fun w' => True) (ds := []) (bl 15 0) (by kernel_rfl) rfl rfl trivial (fun hHeld => ?_); refine with_tabW spec_ProbeSmaller.tab10 spec_ProbeSmaller.bits10 (fun HT_ HW_ => ?_)
                      generalize wr.drew = w25 at BK230 BK231 HB hHeld ⊢
                      refine pu 0 30 (bl 15 1) ?_
                      refine pu 1 31 (bl 15 3) ?_
                      refine pv 2 32 (bl 15 7) ?_
                      refine pv 3 33 (bl 15 15) ?_
                      refine pv 4 34 (bl 15 31) ?_
                      refine pv 5 35 (bl 15 63) ?_
                      refine pv 6 36 (bl 15 127) ?_
                      refine pv 7 37 (bl 15 255) ?_
                      refine pv 8 38 (bl 15 511) ?_
                      refine pv 9 39 (bl 15 1023) ?_
                      refine pv 10 40 (bl 15 2047) ?_
                      refine pv 11 41 (bl 15 4095) ?_
                      refine pv 12 42 (bl 15 8191) ?_
                      refine pu 13 43 (bl 15 16383) ?_
                      refine pu 14 6 (bl 15 32767) ?_
                      refine done_ (done_of HT_.out (by kernel_rfl)) ?_
                      try go_wp2
                      go_roundg k3
                      case measure => have := HJ2.out; have := HK2.out; have := HK3.out; omega
                      case rel => exact ⟨(true), (wrap64 (x7_3 + 1)), rs, rs, H', ⟨by have := HJ2.out; have := HK2.out; have := HK3.out; omega⟩, ⟨bk BK230⟩, ⟨bk BK231⟩, ⟨bq⟩⟩
                    · replace c22 := Bool.eq_false_iff.mpr c22
                      subst c22
                      have H1 : (if 0 ≤ x7_3 then (if 0 ≤ x5_2 then (if x5_2 < (l0_1.length : Int) then ((spec_l2Cover.f ((rd_T26 l1_1 x7_3).f0) ((rd_T26 l1_1 x7_3).f1) ((rd_T26 l1_1 x7_3).f2) ((rd_T26 l1_1 x7_3).f3) ((rd_T26 l1_1 x7_3).f4) ((rd_T26 l1_1 x7_3).f5) ((rd_T26 l0_1 x5_2).f0) ((rd_T26 l0_1 x5_2).f1) ((rd_T26 l0_1 x5_2).f2) ((rd_T26 l0_1 x5_2).f3) ((rd_T26 l0_1 x5_2).f4) ((rd_T26 l0_1 x5_2).f5)).bind fun t236 => (spec_ProbeSmaller.l1 k3 x5_2 t236 (wrap64 (x7_3 + 1)) a0_0 l0_1 a1_0 l1_1)) else (none)) else (none)) else (none)) = some r := by rw [if_neg (show ¬ (false = true) by decide)] at H; exact H
                      clear H
                      have H := H1
                      clear H1
                      by_cases c26 : 0 ≤ x7_3
                      · rw [if_pos c26] at H
                        have c26b0 : decide (0 ≤ x7_3) = true := decide_eq_true c26
                        clear c26
                        by_cases c27 : 0 ≤ x5_2
                        · rw [if_pos c27] at H
                          have c27b0 : decide (0 ≤ x5_2) = true := decide_eq_true c27
                          clear c27
                          by_cases c28 : x5_2 < (l0_1.length : Int)
                          · rw [if_pos c28] at H
                            have c28b0 : decide (x5_2 < (l0_1.length : Int)) = true := decide_eq_true c28
                            clear c28
                            obtain ⟨t236, A29, H⟩ := bo H
                            have H' := Aside0.mk H
                            clear H
                            have hnb30 := NB231_230.out
                            have hnc30 := NB230_231.out
                            obtain ⟨hcz31_0, hcz31_1, hfz31_0, hfz31_1⟩ := zc2 BK231
                            try go_wp2
                            have n0 := ra (blk_drew BK230.out)
                            have n1 := ra (blk_drew BK231.out)
                            have n2 := ra (below_drew1 HB.out)
                            clear BK230 BK231 HB
                            have BK230 := n0
                            have BK231 := n1
                            have HB := n2
                            clear n0 n1 n2
                            have p234 : 0 ≤ (x7_3 : Int) := od
                            have q234 : x7_3 < (l1_1.length : Int) := od
                            obtain ⟨ad234, e234, hx234_0, hx234_1, hx234_2, hx234_3, hx234_4, hx234_5⟩ := at_T26 HR1_1.out x7_3 p234 q234
                            have hw234_5 := hx234_5
                            have hw234_4 := hx234_4
                            have hw234_3 := hx234_3
                            have hw234_2 := hx234_2
                            have hw234_1 := hx234_1
                            have hw234_0 := hx234_0
                            cases e234
                            replace hx234_0 := hc HB hx234_0
                            replace hx234_1 := hc HB hx234_1
                            replace hx234_2 := hc HB hx234_2
                            replace hx234_3 := hc HB hx234_3
                            replace hx234_4 := hc HB hx234_4
                            replace hx234_5 := hc HB hx234_5
                            replace p234 := eq_true p234
                            replace q234 := eq_true q234
                            have p235 : 0 ≤ (x5_2 : Int) := od
                            have q235 : x5_2 < (l0_1.length : Int) := od
                            obtain ⟨ad235, e235, hx235_0, hx235_1, hx235_2, hx235_3, hx235_4, hx235_5⟩ := at_T26 HR0_1.out x5_2 p235 q235
                            have hw235_5 := hx235_5
                            have hw235_4 := hx235_4
                            have hw235_3 := hx235_3
                            have hw235_2 := hx235_2
                            have hw235_1 := hx235_1
                            have hw235_0 := hx235_0
                            cases e235
                            replace hx235_0 := hc HB hx235_0
                            replace hx235_1 := hc HB hx235_1
                            replace hx235_2 := hc HB hx235_2
                            replace hx235_3 := hc HB hx235_3
                            replace hx235_4 := hc HB hx235_4
                            replace hx235_5 := hc HB hx235_5
                            replace p235 := eq_true p235
                            replace q235 := eq_true q235
                            refine start_ (n := 15) (S := fun w' => w'.cell? ⟨gb231, 0, none⟩ = some (.string a1_0) ∧ w'.cell? ⟨gb231, 1, none⟩ = some (.slice (some ad234) l1_1.length c1_1) ∧ w'.cell? ⟨gb230, 0, none⟩ = some (.string a0_0) ∧ w'.cell? ⟨gb230, 1, none⟩ = some (.slice (some ad235) l0_1.length c0_1) ∧ w'.cell? (ad234.add ((x7_3).toNat * 6)) = some (.int .i64 ((rd_T26 l1_1 x7_3).f0)) ∧ w'.cell? ⟨(ad234.add ((x7_3).toNat * 6)).block, (ad234.add ((x7_3).toNat * 6)).off + 1, none⟩ = some (.int .i64 ((rd_T26 l1_1 x7_3).f1)) ∧ w'.cell? ⟨(ad234.add ((x7_3).toNat * 6)).block, (ad234.add ((x7_3).toNat * 6)).off + 2, none⟩ = some (.int .i64 ((rd_T26 l1_1 x7_3).f2)) ∧ w'.cell? ⟨(ad234.add ((x7_3).toNat * 6)).block, (ad234.add ((x7_3).toNat * 6)).off + 3, none⟩ = some (.int .i64 ((rd_T26 l1_1 x7_3).f3)) ∧ w'.cell? ⟨(ad234.add ((x7_3).toNat * 6)).block, (ad234.add ((x7_3).toNat * 6)).off + 4, none⟩ = some (.int .i64 ((rd_T26 l1_1 x7_3).f4)) ∧ w'.cell? ⟨(ad234.add ((x7_3).toNat * 6)).block, (ad234.add ((x7_3).toNat * 6)).off + 5, none⟩ = some (.int .i64 ((rd_T26 l1_1 x7_3).f5)) ∧ w'.cell? (ad235.add ((x5_2).toNat * 6)) = some (.int .i64 ((rd_T26 l0_1 x5_2).f0)) ∧ w'.cell? ⟨(ad235.add ((x5_2).toNat * 6)).block, (ad235.add ((x5_2).toNat * 6)).off + 1, none⟩ = some (.int .i64 ((rd_T26 l0_1 x5_2).f1)) ∧ w'.cell? ⟨(ad235.add ((x5_2).toNat * 6)).block, (ad235.add ((x5_2).toNat * 6)).off + 2, none⟩ = some (.int .i64 ((rd_T26 l0_1 x5_2).f2)) ∧ w'.cell? ⟨(ad235.add ((x5_2).toNat * 6)).block, (ad235.add ((x5_2).toNat * 6)).off + 3, none⟩ = some (.int .i64 ((rd_T26 l0_1 x5_2).f3)) ∧ w'.cell? ⟨(ad235.add ((x5_2).toNat * 6)).block, (ad235.add ((x5_2).toNat * 6)).off + 4, none⟩ = some (.int .i64 ((rd_T26 l0_1 x5_2).f4)) ∧ w'.cell? ⟨(ad235.add ((x5_2).toNat * 6)).block, (ad235.add ((x5_2).toNat * 6)).off + 5, none⟩ = some (.int .i64 ((rd_T26 l0_1 x5_2).f5))) (ds := []) (bl 15 0) (by kernel_rfl) rfl rfl ⟨(blk_cell BK231.out 0).trans rfl, (blk_cell BK231.out 1).trans rfl, (blk_cell BK230.out 0).trans rfl, (blk_cell BK230.out 1).trans rfl, (hc HB hw234_0), (hc HB hw234_1), (hc HB hw234_2), (hc HB hw234_3), (hc HB hw234_4), (hc HB hw234_5), (hc HB hw235_0), (hc HB hw235_1), (hc HB hw235_2), (hc HB hw235_3), (hc HB hw235_4), (hc HB hw235_5)⟩ (fun hHeld => ?_); refine with_tabW spec_ProbeSmaller.tab10 spec_ProbeSmaller.bits10 (fun HT_ HW_ => ?_)
                            generalize wr.drew = w32 at BK230 BK231 HB hx234_0 hx234_1 hx234_2 hx234_3 hx234_4 hx234_5 hx235_0 hx235_1 hx235_2 hx235_3 hx235_4 hx235_5 hHeld ⊢
                            refine pu 0 30 (bl 15 1) ?_
                            refine pu 1 31 (bl 15 3) ?_
                            refine pu 2 32 (bl 15 7) ?_
                            refine pu 4 34 (bl 15 23) ?_
                            refine pu 7 37 (bl 15 151) ?_
                            refine pu 9 39 (bl 15 663) ?_
                            refine tk 3 33 (bl 15 671) ?_ hHeld
                            refine pu 5 35 (bl 15 703) ?_
                            refine tk 6 36 (bl 15 767) ?_ hHeld
                            refine tk 8 38 (bl 15 1023) ?_ hHeld
                            refine pu 10 40 (bl 15 2047) ?_
                            refine tk 11 41 (bl 15 4095) ?_ hHeld
                            refine oe 12 42 (bl 15 8191) (fun K hK => ?_)
                            refine gs Try.func56 #[.agg #[.int .i64 ((rd_T26 l1_1 x7_3).f0), .int .i64 ((rd_T26 l1_1 x7_3).f1), .int .i64 ((rd_T26 l1_1 x7_3).f2), .int .i64 ((rd_T26 l1_1 x7_3).f3), .int .i64 ((rd_T26 l1_1 x7_3).f4), .int .i64 ((rd_T26 l1_1 x7_3).f5)], .agg #[.int .i64 ((rd_T26 l0_1 x5_2).f0), .int .i64 ((rd_T26 l0_1 x5_2).f1), .int .i64 ((rd_T26 l0_1 x5_2).f2), .int .i64 ((rd_T26 l0_1 x5_2).f3), .int .i64 ((rd_T26 l0_1 x5_2).f4), .int .i64 ((rd_T26 l0_1 x5_2).f5)]] ?_
                            with_reducible refine (spec_l2Cover.calls ((rd_T26 l1_1 x7_3).f0) ((rd_T26 l1_1 x7_3).f1) ((rd_T26 l1_1 x7_3).f2) ((rd_T26 l1_1 x7_3).f3) ((rd_T26 l1_1 x7_3).f4) ((rd_T26 l1_1 x7_3).f5) ((rd_T26 l0_1 x5_2).f0) ((rd_T26 l0_1 x5_2).f1) ((rd_T26 l0_1 x5_2).f2) ((rd_T26 l0_1 x5_2).f3) ((rd_T26 l0_1 x5_2).f4) ((rd_T26 l0_1 x5_2).f5) t236 _ A29.out).mono ?_
                            rintro e w33 ⟨rfl, hb⟩
                            refine ⟨_, rfl, ?_⟩
                            have n0 := bb (bk BK230) hb
                            have n1 := bb (bk BK231) hb
                            have n2 := bs hb
                            clear BK230 BK231 HB
                            have BK230 := n0
                            have BK231 := n1
                            have HB := n2
                            clear n0 n1 n2
                            (try clear hb)
                            (try clear hb2)
                            (try clear hk)
                            (try clear hi)
                            refine hK.out _ _ ⟨(blk_cell BK231.out 0).trans rfl, (blk_cell BK231.out 1).trans rfl, (blk_cell BK230.out 0).trans rfl, (blk_cell BK230.out 1).trans rfl, (hc HB hw234_0), (hc HB hw234_1), (hc HB hw234_2), (hc HB hw234_3), (hc HB hw234_4), (hc HB hw234_5), (hc HB hw235_0), (hc HB hw235_1), (hc HB hw235_2), (hc HB hw235_3), (hc HB hw235_4), (hc HB hw235_5)⟩ (fun hHeld => ?_)
                            clear hK K
                            refine nm 42 ?_
                            refine pu 13 43 (bl 15 16383) ?_
                            refine pu 14 6 (bl 15 32767) ?_
                            refine done_ (done_of HT_.out (by kernel_rfl)) ?_
                            try go_wp2
                            go_roundg k3
                            case measure => have := HJ2.out; have := HK2.out; have := HK3.out; omega
                            case rel => exact ⟨(t236), (wrap64 (x7_3 + 1)), rs, rs, H', ⟨by have := HJ2.out; have := HK2.out; have := HK3.out; omega⟩, ⟨bk BK230⟩, ⟨bk BK231⟩, ⟨bq⟩⟩
                          · rw [if_neg c28] at H
                            exact absurd H (by simp)
                        · rw [if_neg c27] at H
                          exact absurd H (by simp)
                      · rw [if_neg c26] at H
                        exact absurd H (by simp)
                  · rw [if_neg c21] at H
                    have c21b0 : decide (x7_3 < (l1_1.length : Int)) = false := decide_eq_false c21
                    clear c21
                    by_cases c34 : x6_3 = true
                    · subst c34
                      replace H := it H rfl
                      have H' := Aside0.mk H
                      clear H
                      have hnb35 := NB231_230.out
                      have hnc35 := NB230_231.out
                      obtain ⟨hcz36_0, hcz36_1, hfz36_0, hfz36_1⟩ := zc2 BK231
                      go_wp2
                      go_roundg k3
                      case measure => have := HJ2.out; have := HK2.out; have := HK3.out; omega
                      case rel => exact ⟨(wrap64 (x5_2 + 1)), rs, H', ⟨by have := HJ2.out; have := HK2.out; have := HK3.out; omega⟩, ⟨bk BK230⟩, ⟨bk BK231⟩, ⟨bq⟩⟩
                    · replace c34 := Bool.eq_false_iff.mpr c34
                      subst c34
                      have H1 : (some false) = some r := by rw [if_neg (show ¬ (false = true) by decide)] at H; exact H
                      clear H
                      have H := H1
                      clear H1
                      obtain rfl := Option.some.inj H
                      have hnb37 := NB231_230.out
                      have hnc37 := NB230_231.out
                      obtain ⟨hcz38_0, hcz38_1, hfz38_0, hfz38_1⟩ := zc2 BK231
                      go_wp2
                      go_ret
                      exact ⟨re, bq⟩
            · rw [if_neg c18] at H
              have c18b0 : decide (x5_2 < (l0_1.length : Int)) = false := decide_eq_false c18
              clear c18
              obtain rfl := Option.some.inj H
              have hnb39 := NB230_231.out
              have hnc39 := NB231_230.out
              obtain ⟨hcz40_0, hcz40_1, hfz40_0, hfz40_1⟩ := zc2 BK230
              go_wp2
              go_ret
              exact ⟨re, bq⟩
end Go.Proofs.Ytfoapgcnjnogiaa.PA
